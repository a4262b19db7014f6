import PyProof.Rows.All
import Wide.All
import OpenK.AllK
import Wide.FinOn
import HandS.ForMost
import HandS.Flow
import HandS.Style
import HandS.IsInst
import HandS.Conv
import HandS.Defaults
import HandS.SortRule
import HandS.SortInts
import KE.KSortTupAny
import HandS.Text
import HandS.Wide
import HandS.TupAny
import HandS.Zip
import HandS.SetFor
import HandS.Strs
import HandS.SortKw
import HandS.Ends
import PySem.Challenge.RW_potround_k13_stretches_of_hours
set_option Elab.async false
set_option linter.all false
set_option maxRecDepth 100000
set_option maxHeartbeats 4100000
/-! Mn A: data trees, what stands for them in the abstract heap, the slots of a def. -/
namespace Mn
open PySem L2

/-- data: o tells whether the node is the holder's own (it may be changed), else it's shared and only read -/
inductive D where
  | non | bl (b : Bool) | int (i : Int) | str (s : Str)
  | tup (xs : List D)
  | lst (o : Bool) (xs : List D)
  | scr (xs : List D)
  | dk (o : Bool) (ks : List Key) (xs : List D)
  | ins (o : Bool) (c : Addr) (ks : List Str) (xs : List D)
  deriving Inhabited

mutual
def frz : D → D
  | .non => .non | .bl b => .bl b | .int i => .int i | .str s => .str s
  | .tup xs => .tup (frzs xs)
  | .lst _ xs => .lst false (frzs xs)
  | .scr xs => .scr (frzs xs)
  | .dk _ ks xs => .dk false ks (frzs xs)
  | .ins _ c ks xs => .ins false c ks (frzs xs)
def frzs : List D → List D
  | [] => []
  | x :: xs => frz x :: frzs xs
end
mutual
/-- no shared node that could be changed by its holder -/
def nfm : D → Bool
  | .tup xs => nfms xs
  | .lst o xs => o && nfms xs
  | .dk o _ xs => o && nfms xs
  | .ins o _ _ xs => o && nfms xs
  | .scr xs => nfms xs
  | _ => true
def nfms : List D → Bool
  | [] => true
  | x :: xs => nfm x && nfms xs
end

abbrev AP := Addr → Prop
/-- a list that nobody changes: the script, or a list that the module's top has made -/
def SqI (K : PySem.W.Frag) (H : Hp) (a : Addr) (vs : List V) : Prop := (∃ o, H a = some (.frz o (.lst vs))) ∨
  ∃ (o : Obj) (its : Array Value) (n : Nat), K.lookup a = some o ∧ o.cls = .type "list" ∧ o.dict = none ∧ o.data = .seq its n ∧ its.size ≤ sizeLine ∧ Vals vs its.toList
theorem SqI.seq {K : PySem.W.Frag} {H : Hp} {a : Addr} {vs : List V} (h : SqI K H a vs) : SqL K H a vs := h.elim (fun ⟨o, h⟩ => .inl (.inr ⟨o, h⟩)) .inr
mutual
def Rp (K : PySem.W.Frag) (H : Hp) (A : AP) : D → V → List Addr → Prop
  | .non, v, P => v = .non ∧ P = []
  | .bl b, v, P => v = .bl b ∧ P = []
  | .int i, v, P => v = .int i ∧ P = []
  | .str s, v, P => v = .str s ∧ P = [] ∧ PyData.strOk s = true
  | .tup xs, v, P => ∃ a vs, v = .ref a ∧ SqT K H a vs ∧ Rps K H A xs vs P
  | .lst true xs, v, P => ∃ a vs P', v = .ref a ∧ H a = some (.lst vs) ∧ P = a :: P' ∧ Rps K H A xs vs P'
  | .lst false xs, v, P => ∃ a vs, v = .ref a ∧ H a = some (.lst vs) ∧ A a ∧ P = [] ∧ Rps K H A xs vs []
  | .scr xs, v, P => ∃ a vs, v = .ref a ∧ SqI K H a vs ∧ P = [] ∧ Rps K H A xs vs []
  | .dk true ks xs, v, P => ∃ a vs P', v = .ref a ∧ H a = some (.dK (ks.zip vs)) ∧ ks.length = vs.length ∧ P = a :: P' ∧ Rps K H A xs vs P'
  | .dk false ks xs, v, P => ∃ a vs, v = .ref a ∧ H a = some (.dK (ks.zip vs)) ∧ ks.length = vs.length ∧ A a ∧ P = [] ∧ Rps K H A xs vs []
  | .ins true c ks xs, v, P => ∃ a dx vs P', v = .ref a ∧ H a = some (.ins c dx (ks.zip vs)) ∧ ks.length = vs.length ∧ P = a :: P' ∧ Rps K H A xs vs P'
  | .ins false c ks xs, v, P => ∃ a dx vs, v = .ref a ∧ H a = some (.ins c dx (ks.zip vs)) ∧ ks.length = vs.length ∧ A a ∧ P = [] ∧ Rps K H A xs vs []
def Rps (K : PySem.W.Frag) (H : Hp) (A : AP) : List D → List V → List Addr → Prop
  | [], vs, P => vs = [] ∧ P = []
  | x :: xs, vs, P => ∃ v r P1 P2, vs = v :: r ∧ P = P1 ++ P2 ∧ Rp K H A x v P1 ∧ Rps K H A xs r P2
end

/-- what no holder changes -/
def Still : HO → Prop
  | .tup _ => True
  | .frz _ _ => True
  | _ => False

theorem SqI.mono {K : PySem.W.Frag} {H H' : Hp} {a : Addr} {vs : List V} (h : SqI K H a vs) (hk : ∀ b o, H b = some o → Still o → H' b = some o) : SqI K H' a vs := h.imp (fun ⟨o, h⟩ => ⟨o, hk _ _ h trivial⟩) id
theorem sqT_mono {K : PySem.W.Frag} {H H' : Hp} {a : Addr} {vs : List V} (h : SqT K H a vs) (hk : ∀ b o, H b = some o → Still o → H' b = some o) : SqT K H' a vs := by
  rcases h with (h | ⟨o, h⟩) | h
  · exact .inl (.inl (hk _ _ h trivial))
  · exact .inl (.inr ⟨o, hk _ _ h trivial⟩)
  · exact .inr h

section
variable {K : PySem.W.Frag} {H H' : Hp} {A A' : AP}
mutual
/-- the heap and the allowed shared addresses may grow -/
theorem Rp.mono : ∀ {d : D} {v : V} {P : List Addr}, Rp K H A d v P → (∀ b o, H b = some o → (b ∈ P ∨ A b ∨ Still o) → H' b = some o) → (∀ a o, H a = some o → A a → A' a) → Rp K H' A' d v P
  | .non, v, P, h, _, _ => h
  | .bl b, v, P, h, _, _ => h
  | .int i, v, P, h, _, _ => h
  | .str s, v, P, h, _, _ => h
  | .tup xs, v, P, ⟨a, vs, e, hs, hr⟩, hk, ha => ⟨a, vs, e, sqT_mono hs fun b o e s => hk b o e (.inr (.inr s)), Rps.mono hr hk ha⟩
  | .lst true xs, v, P, ⟨a, vs, P', e, hs, ep, hr⟩, hk, ha => ⟨a, vs, P', e, hk _ _ hs (.inl (by rw [ep]; exact List.mem_cons_self)), ep, Rps.mono hr (fun b o e q => hk b o e (q.elim (fun z => .inl (by rw [ep]; exact List.mem_cons_of_mem _ z)) .inr)) ha⟩
  | .lst false xs, v, P, ⟨a, vs, e, hs, hA, ep, hr⟩, hk, ha => ⟨a, vs, e, hk _ _ hs (.inr (.inl hA)), ha _ _ hs hA, ep, Rps.mono hr (fun b o e q => hk b o e (q.elim (fun z => nomatch z) .inr)) ha⟩
  | .scr xs, v, P, ⟨a, vs, e, hs, ep, hr⟩, hk, ha => ⟨a, vs, e, hs.mono fun b o e s => hk b o e (.inr (.inr s)), ep, Rps.mono hr (fun b o e q => hk b o e (q.elim (fun z => nomatch z) .inr)) ha⟩
  | .dk true ks xs, v, P, ⟨a, vs, P', e, hs, hl, ep, hr⟩, hk, ha => ⟨a, vs, P', e, hk _ _ hs (.inl (by rw [ep]; exact List.mem_cons_self)), hl, ep, Rps.mono hr (fun b o e q => hk b o e (q.elim (fun z => .inl (by rw [ep]; exact List.mem_cons_of_mem _ z)) .inr)) ha⟩
  | .dk false ks xs, v, P, ⟨a, vs, e, hs, hl, hA, ep, hr⟩, hk, ha => ⟨a, vs, e, hk _ _ hs (.inr (.inl hA)), hl, ha _ _ hs hA, ep, Rps.mono hr (fun b o e q => hk b o e (q.elim (fun z => nomatch z) .inr)) ha⟩
  | .ins true c ks xs, v, P, ⟨a, dx, vs, P', e, hs, hl, ep, hr⟩, hk, ha => ⟨a, dx, vs, P', e, hk _ _ hs (.inl (by rw [ep]; exact List.mem_cons_self)), hl, ep, Rps.mono hr (fun b o e q => hk b o e (q.elim (fun z => .inl (by rw [ep]; exact List.mem_cons_of_mem _ z)) .inr)) ha⟩
  | .ins false c ks xs, v, P, ⟨a, dx, vs, e, hs, hl, hA, ep, hr⟩, hk, ha => ⟨a, dx, vs, e, hk _ _ hs (.inr (.inl hA)), hl, ha _ _ hs hA, ep, Rps.mono hr (fun b o e q => hk b o e (q.elim (fun z => nomatch z) .inr)) ha⟩
theorem Rps.mono : ∀ {ds : List D} {vs : List V} {P : List Addr}, Rps K H A ds vs P → (∀ b o, H b = some o → (b ∈ P ∨ A b ∨ Still o) → H' b = some o) → (∀ a o, H a = some o → A a → A' a) → Rps K H' A' ds vs P
  | [], vs, P, h, _, _ => h
  | x :: xs, vs, P, ⟨v, r, P1, P2, e, ep, h1, h2⟩, hk, ha => ⟨v, r, P1, P2, e, ep, Rp.mono h1 (fun b o e q => hk b o e (q.elim (fun z => .inl (by rw [ep]; exact List.mem_append_left _ z)) .inr)) ha,
      Rps.mono h2 (fun b o e q => hk b o e (q.elim (fun z => .inl (by rw [ep]; exact List.mem_append_right _ z)) .inr)) ha⟩
end
mutual
/-- own nodes become shared -/
theorem Rp.frz : ∀ {d : D} {v : V} {P : List Addr}, Rp K H A d v P → (∀ a o, H a = some o → A a ∨ a ∈ P → A' a) → Rp K H A' (frz d) v []
  | .non, v, P, h, _ => ⟨h.1, rfl⟩
  | .bl b, v, P, h, _ => ⟨h.1, rfl⟩
  | .int i, v, P, h, _ => ⟨h.1, rfl⟩
  | .str s, v, P, h, _ => ⟨h.1, rfl, h.2.2⟩
  | .tup xs, v, P, ⟨a, vs, e, hs, hr⟩, ha => ⟨a, vs, e, hs, Rps.frz hr ha⟩
  | .lst true xs, v, P, ⟨a, vs, P', e, hs, ep, hr⟩, ha => ⟨a, vs, e, hs, ha _ _ hs (.inr (by rw [ep]; exact List.mem_cons_self)), rfl, Rps.frz hr fun b o e q => ha b o e (q.elim .inl fun z => .inr (by rw [ep]; exact List.mem_cons_of_mem _ z))⟩
  | .lst false xs, v, P, ⟨a, vs, e, hs, hA, ep, hr⟩, ha => ⟨a, vs, e, hs, ha _ _ hs (.inl hA), rfl, Rps.frz hr fun b o e q => ha b o e (q.elim .inl fun z => nomatch z)⟩
  | .scr xs, v, P, ⟨a, vs, e, hs, ep, hr⟩, ha => ⟨a, vs, e, hs, rfl, Rps.frz hr fun b o e q => ha b o e (q.elim .inl fun z => nomatch z)⟩
  | .dk true ks xs, v, P, ⟨a, vs, P', e, hs, hl, ep, hr⟩, ha => ⟨a, vs, e, hs, hl, ha _ _ hs (.inr (by rw [ep]; exact List.mem_cons_self)), rfl, Rps.frz hr fun b o e q => ha b o e (q.elim .inl fun z => .inr (by rw [ep]; exact List.mem_cons_of_mem _ z))⟩
  | .dk false ks xs, v, P, ⟨a, vs, e, hs, hl, hA, ep, hr⟩, ha => ⟨a, vs, e, hs, hl, ha _ _ hs (.inl hA), rfl, Rps.frz hr fun b o e q => ha b o e (q.elim .inl fun z => nomatch z)⟩
  | .ins true c ks xs, v, P, ⟨a, dx, vs, P', e, hs, hl, ep, hr⟩, ha => ⟨a, dx, vs, e, hs, hl, ha _ _ hs (.inr (by rw [ep]; exact List.mem_cons_self)), rfl, Rps.frz hr fun b o e q => ha b o e (q.elim .inl fun z => .inr (by rw [ep]; exact List.mem_cons_of_mem _ z))⟩
  | .ins false c ks xs, v, P, ⟨a, dx, vs, e, hs, hl, hA, ep, hr⟩, ha => ⟨a, dx, vs, e, hs, hl, ha _ _ hs (.inl hA), rfl, Rps.frz hr fun b o e q => ha b o e (q.elim .inl fun z => nomatch z)⟩
theorem Rps.frz : ∀ {ds : List D} {vs : List V} {P : List Addr}, Rps K H A ds vs P → (∀ a o, H a = some o → A a ∨ a ∈ P → A' a) → Rps K H A' (frzs ds) vs []
  | [], vs, P, h, _ => ⟨h.1, rfl⟩
  | x :: xs, vs, P, ⟨v, r, P1, P2, e, ep, h1, h2⟩, ha => ⟨v, r, [], [], e, rfl, Rp.frz h1 fun b o e q => ha b o e (q.elim .inl fun z => .inr (by rw [ep]; exact List.mem_append_left _ z)),
      Rps.frz h2 fun b o e q => ha b o e (q.elim .inl fun z => .inr (by rw [ep]; exact List.mem_append_right _ z))⟩
end
mutual
/-- where nothing is shared, the allowed shared addresses don't matter -/
theorem Rp.nfm : ∀ {d : D} {v : V} {P : List Addr}, Rp K H A d v P → nfm d = true → Rp K H A' d v P
  | .non, v, P, h, _ => h
  | .bl b, v, P, h, _ => h
  | .int i, v, P, h, _ => h
  | .str s, v, P, h, _ => h
  | .tup xs, v, P, ⟨a, vs, e, hs, hr⟩, n => ⟨a, vs, e, hs, Rps.nfm hr n⟩
  | .lst true xs, v, P, ⟨a, vs, P', e, hs, ep, hr⟩, n => ⟨a, vs, P', e, hs, ep, Rps.nfm hr n⟩
  | .lst false xs, v, P, _, n => nomatch n
  | .scr xs, v, P, ⟨a, vs, e, hs, ep, hr⟩, n => ⟨a, vs, e, hs, ep, Rps.nfm hr n⟩
  | .dk true ks xs, v, P, ⟨a, vs, P', e, hs, hl, ep, hr⟩, n => ⟨a, vs, P', e, hs, hl, ep, Rps.nfm hr n⟩
  | .dk false ks xs, v, P, _, n => nomatch n
  | .ins true c ks xs, v, P, ⟨a, dx, vs, P', e, hs, hl, ep, hr⟩, n => ⟨a, dx, vs, P', e, hs, hl, ep, Rps.nfm hr n⟩
  | .ins false c ks xs, v, P, _, n => nomatch n
theorem Rps.nfm : ∀ {ds : List D} {vs : List V} {P : List Addr}, Rps K H A ds vs P → nfms ds = true → Rps K H A' ds vs P
  | [], vs, P, h, _ => h
  | x :: xs, vs, P, ⟨v, r, P1, P2, e, ep, h1, h2⟩, n => by
    have n' := (Bool.and_eq_true _ _).mp n
    exact ⟨v, r, P1, P2, e, ep, Rp.nfm h1 n'.1, Rps.nfm h2 n'.2⟩
end
mutual
/-- own nodes stand in the heap, and can be changed -/
theorem Rp.there : ∀ {d : D} {v : V} {P : List Addr}, Rp K H A d v P → ∀ b ∈ P, ∃ o, H b = some o ∧ ¬ Still o
  | .non, v, P, h, b, hb => by rw [h.2] at hb; cases hb
  | .bl _, v, P, h, b, hb => by rw [h.2] at hb; cases hb
  | .int i, v, P, h, b, hb => by rw [h.2] at hb; cases hb
  | .str s, v, P, h, b, hb => by rw [h.2.1] at hb; cases hb
  | .tup xs, v, P, ⟨a, vs, e, hs, hr⟩, b, hb => Rps.there hr b hb
  | .lst true xs, v, P, ⟨a, vs, P', e, hs, ep, hr⟩, b, hb => by
    rw [ep] at hb
    rcases List.mem_cons.mp hb with rfl | hb
    · exact ⟨_, hs, id⟩
    · exact Rps.there hr b hb
  | .lst false xs, v, P, ⟨a, vs, e, hs, hA, ep, hr⟩, b, hb => by rw [ep] at hb; cases hb
  | .scr xs, v, P, ⟨a, vs, e, hs, ep, hr⟩, b, hb => by rw [ep] at hb; cases hb
  | .dk true ks xs, v, P, ⟨a, vs, P', e, hs, hl, ep, hr⟩, b, hb => by
    rw [ep] at hb
    rcases List.mem_cons.mp hb with rfl | hb
    · exact ⟨_, hs, id⟩
    · exact Rps.there hr b hb
  | .dk false ks xs, v, P, ⟨a, vs, e, hs, hl, hA, ep, hr⟩, b, hb => by rw [ep] at hb; cases hb
  | .ins true c ks xs, v, P, ⟨a, dx, vs, P', e, hs, hl, ep, hr⟩, b, hb => by
    rw [ep] at hb
    rcases List.mem_cons.mp hb with rfl | hb
    · exact ⟨_, hs, id⟩
    · exact Rps.there hr b hb
  | .ins false c ks xs, v, P, ⟨a, dx, vs, e, hs, hl, hA, ep, hr⟩, b, hb => by rw [ep] at hb; cases hb
theorem Rps.there : ∀ {ds : List D} {vs : List V} {P : List Addr}, Rps K H A ds vs P → ∀ b ∈ P, ∃ o, H b = some o ∧ ¬ Still o
  | [], vs, P, h, b, hb => by rw [h.2] at hb; cases hb
  | x :: xs, vs, P, ⟨v, r, P1, P2, e, ep, h1, h2⟩, b, hb => by
    rw [ep] at hb
    rcases List.mem_append.mp hb with hb | hb
    · exact Rp.there h1 b hb
    · exact Rps.there h2 b hb
end
theorem Rps.length : ∀ {ds : List D} {vs : List V} {P : List Addr}, Rps K H A ds vs P → vs.length = ds.length
  | [], vs, P, h => by rw [h.1]; rfl
  | x :: xs, vs, P, ⟨v, r, P1, P2, e, ep, h1, h2⟩ => by rw [e, List.length_cons, List.length_cons, Rps.length h2]
theorem Rps.append : ∀ {ds es : List D} {vs us : List V} {P Q : List Addr}, Rps K H A ds vs P → Rps K H A es us Q → Rps K H A (ds ++ es) (vs ++ us) (P ++ Q)
  | [], es, vs, us, P, Q, h, g => by rw [h.1, h.2]; exact g
  | x :: xs, es, vs, us, P, Q, ⟨v, r, P1, P2, e, ep, h1, h2⟩, g => ⟨v, r ++ us, P1, P2 ++ Q, by rw [e]; rfl, by rw [ep, List.append_assoc], h1, Rps.append h2 g⟩
theorem Rps.split : ∀ {ds es : List D} {vs : List V} {P : List Addr}, Rps K H A (ds ++ es) vs P → ∃ us ws P1 P2, vs = us ++ ws ∧ P = P1 ++ P2 ∧ Rps K H A ds us P1 ∧ Rps K H A es ws P2
  | [], es, vs, P, h => ⟨[], vs, [], P, rfl, rfl, ⟨rfl, rfl⟩, h⟩
  | x :: xs, es, vs, P, ⟨v, r, P1, P2, e, ep, h1, h2⟩ => by
    obtain ⟨us, ws, Q1, Q2, e2, ep2, g1, g2⟩ := Rps.split h2
    exact ⟨v :: us, ws, P1 ++ Q1, Q2, by rw [e, e2]; rfl, by rw [ep, ep2, List.append_assoc], ⟨v, us, P1, Q1, rfl, rfl, h1, g1⟩, g2⟩
theorem Rps.get : ∀ {ds : List D} {vs : List V} {P : List Addr} {i : Nat} {d : D}, Rps K H A ds vs P → ds[i]? = some d → ∃ v P1 Pa Pb, vs[i]? = some v ∧ P = Pa ++ P1 ++ Pb ∧ Rp K H A d v P1
  | [], vs, P, i, d, h, e => by simp at e
  | x :: xs, vs, P, 0, d, ⟨v, r, P1, P2, e1, ep, h1, h2⟩, e => by
    simp at e
    subst e
    exact ⟨v, P1, [], P2, by rw [e1]; rfl, by rw [ep]; rfl, h1⟩
  | x :: xs, vs, P, i + 1, d, ⟨v, r, P1, P2, e1, ep, h1, h2⟩, e => by
    obtain ⟨u, Q1, Qa, Qb, e3, ep3, g⟩ := Rps.get (i := i) h2 (by simpa using e)
    exact ⟨u, Q1, P1 ++ Qa, Qb, by rw [e1]; simpa using e3, by rw [ep, ep3]; simp, g⟩
theorem Rps.get0 {ds : List D} {vs : List V} {i : Nat} {d : D} (h : Rps K H A ds vs []) (e : ds[i]? = some d) : ∃ v, vs[i]? = some v ∧ Rp K H A d v [] := by
  obtain ⟨v, P1, Pa, Pb, e1, e2, g⟩ := Rps.get h e
  have : P1 = [] := by
    cases Pa with
    | nil => cases P1 with
      | nil => rfl
      | cons => simp at e2
    | cons => simp at e2
  rw [this] at g
  exact ⟨v, e1, g⟩
theorem Rps.one {d : D} {v : V} {P : List Addr} (h : Rp K H A d v P) : Rps K H A [d] [v] P := ⟨v, [], P, [], rfl, by simp, h, rfl, rfl⟩
end
/-! ### the slots of a def -/
abbrev Env := List (Option D)
abbrev Own := Nat → List Addr
def AE (F : AP) (own : Own) : AP := fun a => ¬ F a ∧ ∀ i, a ∉ own i
/-- own j: the own nodes of what slot j holds; F: own nodes of what is held besides -/
structure EnvR (K : PySem.W.Frag) (F : AP) (ρ : Env) (own : Own) (σ : L2.St) (H : Hp) : Prop where
  len : ρ.length = σ.length
  rep : ∀ j d, ρ[j]? = some (some d) → ∃ v, σ[j]? = some (some v) ∧ Rp K H (AE F own) d v (own j)
  non : ∀ j, (∀ d, ρ[j]? ≠ some (some d)) → own j = []
  nd : ∀ j, (own j).Nodup
  dj : ∀ i j b, i ≠ j → b ∈ own i → b ∉ own j
  fr : ∀ j b, b ∈ own j → ¬ F b
  fa : ∀ b, F b → H b ≠ none
def AV (F : AP) (U : List Nat) (own : Own) (P : List Addr) : AP := fun a => ¬ F a ∧ a ∉ P ∧ ∀ j, j ∉ U → a ∉ own j
/-- what an evaluation has changed: W the slots whose nodes may have changed -/
structure Post (W : List Nat) (own : Own) (H : Hp) (P : List Addr) (own' : Own) (H' : Hp) : Prop where
  keep : ∀ b o, H b = some o → (∀ j, j ∈ W → b ∉ own j) → H' b = some o
  there : ∀ b, H b ≠ none → H' b ≠ none
  frP : ∀ b, b ∈ P → H b = none ∨ ∃ j, j ∈ W ∧ b ∈ own j
  frO : ∀ j b, b ∈ own' j → b ∈ own j ∨ (j ∈ W ∧ (H b = none ∨ ∃ i, i ∈ W ∧ b ∈ own i))
abbrev FP (F : AP) (P : List Addr) : AP := fun b => F b ∨ b ∈ P
section
variable {K : PySem.W.Frag} {F : AP} {ρ ρ' : Env} {own own1 own2 : Own} {σ : L2.St} {H H1 H2 : Hp} {W W1 W2 U U1 U2 : List Nat} {P P1 P2 : List Addr}
theorem EnvR.own_there (h : EnvR K F ρ own σ H) {j : Nat} {b : Addr} (hb : b ∈ own j) : ∃ o, H b = some o ∧ ¬ Still o := by
  cases e : ρ[j]? with
  | none => rw [h.non j (fun d => by rw [e]; simp)] at hb; cases hb
  | some x => cases x with
    | none => rw [h.non j (fun d => by rw [e]; simp)] at hb; cases hb
    | some d =>
      obtain ⟨v, _, r⟩ := h.rep j d e
      exact r.there b hb
theorem Post.refl : Post [] own H [] own H :=
  ⟨fun _ _ e _ => e, fun _ e => e, fun _ h => (List.not_mem_nil h).elim, fun _ _ h => .inl h⟩
theorem Post.trans (a : Post W1 own H P1 own1 H1) (b : Post W2 own1 H1 P2 own2 H2) : Post (W1 ++ W2) own H (P1 ++ P2) own2 H2 where
  keep := fun c o e n => b.keep c o (a.keep c o e fun j hj => n j (List.mem_append_left _ hj)) fun j hj hc => by
    rcases a.frO j c hc with z | ⟨_, z | ⟨i, hi, z⟩⟩
    · exact n j (List.mem_append_right _ hj) z
    · rw [e] at z; cases z
    · exact n i (List.mem_append_left _ hi) z
  there := fun c e => b.there c (a.there c e)
  frP := fun c hc => by
    rcases List.mem_append.mp hc with hc | hc
    · exact (a.frP c hc).imp id fun ⟨j, hj, z⟩ => ⟨j, List.mem_append_left _ hj, z⟩
    · rcases b.frP c hc with z | ⟨j, hj, z⟩
      · left
        cases q : H c with
        | none => rfl
        | some o => exact absurd z (a.there c (by rw [q]; simp))
      · rcases a.frO j c z with z | ⟨_, z | ⟨i, hi, z⟩⟩
        · exact .inr ⟨j, List.mem_append_right _ hj, z⟩
        · exact .inl z
        · exact .inr ⟨i, List.mem_append_left _ hi, z⟩
  frO := fun j c hc => by
    rcases b.frO j c hc with z | ⟨hj, z | ⟨i, hi, z⟩⟩
    · rcases a.frO j c z with z | ⟨hj, z | ⟨i, hi, z⟩⟩
      · exact .inl z
      · exact .inr ⟨List.mem_append_left _ hj, .inl z⟩
      · exact .inr ⟨List.mem_append_left _ hj, .inr ⟨i, List.mem_append_left _ hi, z⟩⟩
    · refine .inr ⟨List.mem_append_right _ hj, .inl ?_⟩
      cases q : H c with
      | none => rfl
      | some o => exact absurd z (a.there c (by rw [q]; simp))
    · rcases a.frO i c z with z | ⟨_, z | ⟨i', hi', z⟩⟩
      · exact .inr ⟨List.mem_append_right _ hj, .inr ⟨i, List.mem_append_right _ hi, z⟩⟩
      · exact .inr ⟨List.mem_append_right _ hj, .inl z⟩
      · exact .inr ⟨List.mem_append_right _ hj, .inr ⟨i', List.mem_append_left _ hi', z⟩⟩
theorem Post.mono (a : Post W1 own H P own1 H1) (h : ∀ j, j ∈ W1 → j ∈ W2) : Post W2 own H P own1 H1 :=
  ⟨fun b o e n => a.keep b o e fun j hj => n j (h j hj), a.there, fun b hb => (a.frP b hb).imp id fun ⟨j, hj, z⟩ => ⟨j, h j hj, z⟩,
    fun j b hb => (a.frO j b hb).imp id fun ⟨hj, z⟩ => ⟨h j hj, z.imp id fun ⟨i, hi, z⟩ => ⟨i, h i hi, z⟩⟩⟩
/-- less is held -/
theorem Post.drop (a : Post W own H P own1 H1) (h : ∀ b, b ∈ P1 → b ∈ P) : Post W own H P1 own1 H1 := ⟨a.keep, a.there, fun b hb => a.frP b (h b hb), a.frO⟩
theorem EnvR.less (h : EnvR K F ρ own σ H) {G : AP} (hG : ∀ b, G b → F b) : EnvR K G ρ own σ H :=
  ⟨h.len, fun j d e => (h.rep j d e).imp fun v r => ⟨r.1, r.2.mono (fun _ _ e _ => e) fun a _ _ q => ⟨fun g => q.1 (hG a g), q.2⟩⟩, h.non, h.nd, h.dj, fun j b hb g => h.fr j b hb (hG b g), fun b g => h.fa b (hG b g)⟩
/-- a value that is held while more is evaluated -/
theorem Rp.over {d : D} {v : V} (h : Rp K H1 (AV F U1 own1 P1) d v P1) (E : EnvR K (FP F P1) ρ own1 σ H1) (p : Post W2 own1 H1 P2 own2 H2) (c : (∀ j, j ∈ U1 → j ∉ W2) ∨ Mn.nfm d = true) (hV : ∀ j, j ∈ U1 → j ∈ U) :
    Rp K H2 (AV F U own2 (P1 ++ P2)) d v P1 := by
  have own_ : ∀ b, b ∈ P1 → ∀ j, b ∉ own1 j := fun b hb j hj => E.fr j b hj (.inr hb)
  have still_ : ∀ b o, H1 b = some o → Still o → H2 b = some o := fun b o e s => p.keep b o e fun j _ hb => by
    obtain ⟨o', e', n⟩ := E.own_there hb
    rw [e] at e'; cases e'
    exact n s
  rcases c with c | c
  · refine h.mono (fun b o e q => ?_) fun a o e q => ⟨q.1, fun z => ?_, fun j hj z => ?_⟩
    · rcases q with q | q | q
      · exact p.keep b o e fun j _ => own_ b q j
      · exact p.keep b o e fun j hj => q.2.2 j fun z => c j z hj
      · exact still_ b o e q
    · rcases List.mem_append.mp z with z | z
      · exact q.2.1 z
      · rcases p.frP a z with z | ⟨j, hj, z⟩
        · rw [e] at z; cases z
        · exact q.2.2 j (fun y => c j y hj) z
    · have hj' : j ∉ U1 := fun y => hj (hV j y)
      rcases p.frO j a z with z | ⟨_, z | ⟨i, hi, z⟩⟩
      · exact q.2.2 j hj' z
      · rw [e] at z; cases z
      · exact q.2.2 i (fun y => c i y hi) z
  · have h' : Rp K H1 (fun _ => False) d v P1 := h.nfm c
    refine h'.mono (fun b o e q => ?_) fun a o e q => q.elim
    rcases q with q | q | q
    · exact p.keep b o e fun j _ => own_ b q j
    · exact q.elim
    · exact still_ b o e q
end
end Mn

/-! Mn Ab: sorted lists of tuples. -/
namespace Mn
open PySem PySem.Spec PyProof.Rows L2
/-! a stable sort by insertion -/
section
variable {α β : Type}
def insBy (lt : α → α → Bool) (x : α) : List α → List α
  | [] => [x]
  | y :: ys => if lt y x = true then y :: insBy lt x ys else x :: y :: ys
def srtBy (lt : α → α → Bool) (xs : List α) : List α := xs.foldr (insBy lt) []
theorem insBy_perm {lt : α → α → Bool} {x : α} : ∀ {ys : List α}, (insBy lt x ys).Perm (x :: ys)
  | [] => List.Perm.refl _
  | y :: ys => by
    unfold insBy
    split
    · exact ((insBy_perm (ys := ys)).cons y).trans (List.Perm.swap x y ys)
    · exact List.Perm.refl _
theorem srtBy_perm {lt : α → α → Bool} : ∀ {xs : List α}, (srtBy lt xs).Perm xs
  | [] => List.Perm.refl _
  | x :: xs => insBy_perm.trans ((srtBy_perm (xs := xs)).cons x)
theorem srtBy_mem {lt : α → α → Bool} {xs : List α} {y : α} : y ∈ srtBy lt xs ↔ y ∈ xs := srtBy_perm.mem_iff
theorem srtBy_len {lt : α → α → Bool} {xs : List α} : (srtBy lt xs).length = xs.length := srtBy_perm.length_eq
theorem insBy_srtd {lt : α → α → Bool} (O : SrtO.Swo lt) {x : α} : ∀ {ys : List α}, SrtO.Srtd lt ys → SrtO.Srtd lt (insBy lt x ys)
  | [], _ => SrtO.srtd_one x
  | y :: ys, h => by
    obtain ⟨h1, h2⟩ := List.pairwise_cons.mp h
    unfold insBy
    by_cases e : lt y x = true
    · rw [if_pos e]
      refine List.pairwise_cons.mpr ⟨fun z hz => ?_, insBy_srtd O h2⟩
      rcases List.mem_cons.mp (insBy_perm.mem_iff.mp hz) with rfl | hz
      · exact O.asym _ _ e
      · exact h1 z hz
    · have e : lt y x = false := by simpa using e
      rw [if_neg (by rw [e]; decide)]
      refine List.pairwise_cons.mpr ⟨fun z hz => ?_, h⟩
      rcases List.mem_cons.mp hz with rfl | hz
      · exact e
      · exact O.tr x y z e (h1 z hz)
theorem srtBy_srtd {lt : α → α → Bool} (O : SrtO.Swo lt) : ∀ {xs : List α}, SrtO.Srtd lt (srtBy lt xs)
  | [] => List.Pairwise.nil
  | x :: xs => insBy_srtd O (srtBy_srtd O (xs := xs))
theorem insBy_stb {lt : α → α → Bool} (O : SrtO.Swo lt) {x : α} : ∀ {ys : List α}, SrtO.Stb lt (insBy lt x ys) (x :: ys)
  | [] => SrtO.Stb.refl _
  | y :: ys => by
    unfold insBy
    by_cases e : lt y x = true
    · rw [if_pos e]
      have h1 : SrtO.Stb lt (y :: insBy lt x ys) (y :: x :: ys) := (SrtO.Stb.refl [y]).app (insBy_stb O (ys := ys))
      have h2 : SrtO.Stb lt ([y] ++ [x]) ([x] ++ [y]) := SrtO.Stb.swap O fun a ha b hb => by rw [List.mem_singleton.mp ha, List.mem_singleton.mp hb]; exact e
      exact h1.trans (h2.app (SrtO.Stb.refl ys))
    · rw [if_neg e]; exact SrtO.Stb.refl _
theorem srtBy_stb {lt : α → α → Bool} (O : SrtO.Swo lt) : ∀ {xs : List α}, SrtO.Stb lt (srtBy lt xs) xs
  | [] => SrtO.Stb.refl _
  | x :: xs => (insBy_stb O).trans ((SrtO.Stb.refl [x]).app (srtBy_stb O (xs := xs)))
theorem insBy_map {lt : β → β → Bool} {f : α → β} {x : α} : ∀ {ys : List α}, insBy lt (f x) (ys.map f) = (insBy (fun a b => lt (f a) (f b)) x ys).map f
  | [] => rfl
  | y :: ys => by
    rw [List.map_cons, insBy, insBy, insBy_map]
    split <;> rfl
theorem srtBy_map {lt : β → β → Bool} {f : α → β} : ∀ {xs : List α}, srtBy lt (xs.map f) = (srtBy (fun a b => lt (f a) (f b)) xs).map f
  | [] => rfl
  | x :: xs => by
    show insBy lt (f x) (srtBy lt (xs.map f)) = _
    rw [srtBy_map, insBy_map]
    rfl
theorem swo_map {lt : β → β → Bool} (O : SrtO.Swo lt) (f : α → β) : SrtO.Swo fun a b => lt (f a) (f b) := ⟨fun x y => O.asym _ _, fun x y z => O.tr _ _ _⟩
end
/-! the order of tuples -/
inductive Atm | o | i (n : Int) | s (l : List Nat)
  deriving DecidableEq
def aLt : Atm → Atm → Bool
  | .i m, .i n => decide (m < n)
  | .s x, .s y => decide (x < y)
  | .o, .i _ => true
  | .o, .s _ => true
  | .i _, .s _ => true
  | _, _ => false
theorem aLt_swo : SrtO.Swo aLt where
  asym := fun x y h => by
    cases x <;> cases y <;> simp [aLt] at h ⊢
    · omega
    · exact List.le_of_lt h
  tr := fun x y z h1 h2 => by
    cases x <;> cases y <;> cases z <;> simp [aLt] at h1 h2 ⊢
    · omega
    · exact List.le_trans h1 h2
def lexA : List Atm → List Atm → Bool
  | [], [] => false
  | [], _ :: _ => true
  | _ :: _, [] => false
  | x :: xs, y :: ys => if aLt x y = true then true else if aLt y x = true then false else lexA xs ys
theorem lexA_no {x y : Atm} {xs ys : List Atm} : lexA (x :: xs) (y :: ys) = false ↔ aLt x y = false ∧ (aLt y x = true ∨ lexA xs ys = false) := by
  rw [lexA]
  cases aLt x y <;> cases aLt y x <;> simp
theorem lexA_yes {x y : Atm} {xs ys : List Atm} : lexA (x :: xs) (y :: ys) = true ↔ aLt x y = true ∨ (aLt y x = false ∧ lexA xs ys = true) := by
  rw [lexA]
  cases aLt x y <;> cases aLt y x <;> simp
theorem lexA_asym : ∀ xs ys : List Atm, lexA xs ys = true → lexA ys xs = false
  | [], [], h => by cases h
  | [], _ :: _, _ => rfl
  | _ :: _, [], h => by cases h
  | x :: xs, y :: ys, h => by
    rcases lexA_yes.mp h with h | ⟨h1, h2⟩
    · exact lexA_no.mpr ⟨aLt_swo.asym _ _ h, .inl h⟩
    · exact lexA_no.mpr ⟨h1, .inr (lexA_asym xs ys h2)⟩
theorem lexA_tr : ∀ xs ys zs : List Atm, lexA ys xs = false → lexA zs ys = false → lexA zs xs = false
  | [], _, [], _, _ => rfl
  | [], _, _ :: _, _, _ => rfl
  | _ :: _, [], _, h, _ => by cases h
  | _ :: _, _ :: _, [], _, h => by cases h
  | x :: xs, y :: ys, z :: zs, h1, h2 => by
    obtain ⟨a1, a2⟩ := lexA_no.mp h1
    obtain ⟨b1, b2⟩ := lexA_no.mp h2
    refine lexA_no.mpr ⟨aLt_swo.tr _ _ _ a1 b1, ?_⟩
    rcases SrtO.bcase (aLt x z) with h | h
    · exact .inl h
    · right
      have a3 : lexA ys xs = false := a2.resolve_left fun q => by
        have := aLt_swo.ltle q b1
        rw [h] at this
        cases this
      have b3 : lexA zs ys = false := b2.resolve_left fun q => by
        have := aLt_swo.lelt a1 q
        rw [h] at this
        cases this
      exact lexA_tr xs ys zs a3 b3
theorem lexA_swo : SrtO.Swo lexA := ⟨lexA_asym, lexA_tr⟩
theorem aLt_irr (x : Atm) : aLt x x = false := aLt_swo.refl x
theorem lexA_self {x : Atm} {xs ys : List Atm} : lexA (x :: xs) (x :: ys) = lexA xs ys := by
  rw [lexA, aLt_irr]
  rfl
def atomOf : D → Atm
  | .int i => .i i
  | .str x => .s x.cps.toList
  | _ => .o
def tkeyD : D → List Atm
  | .tup xs => xs.map atomOf
  | _ => []
def tLt (x y : D) : Bool := lexA (tkeyD x) (tkeyD y)
/-- None, numbers, texts -/
def okA : D → Bool
  | .non => true
  | .int _ => true
  | .str _ => true
  | _ => false
/-- where they first differ, both are numbers or both texts -/
def bothA : D → D → Bool
  | .int _, .int _ => true
  | .str _, .str _ => true
  | _, _ => false
def cmpO : List D → List D → Bool
  | x :: xs, y :: ys => if atomOf x = atomOf y then cmpO xs ys else bothA x y
  | _, _ => true
def hdI : D → Bool
  | .tup (.int _ :: r) => r.all okA
  | _ => false
def hdS : D → Bool
  | .tup (.str _ :: r) => r.all okA
  | _ => false
def cmpT : D → D → Bool
  | .tup xs, .tup ys => cmpO xs ys
  | _, _ => false
def sortOk (xs : List D) : Bool := (xs.all hdI || xs.all hdS) && xs.all fun x => xs.all fun y => cmpT x y
/-- sorted(a list of tuples) -/
def sortT (xs : List D) : Option (List D) := if sortOk xs = true then some (srtBy tLt xs) else none
end Mn

/-! Mn Ac: sorted lists of tuples, the rule. -/
namespace Mn
open PySem PySem.Spec PySem.W PyProof.Rows L2
def vA : D → V
  | .int i => .int i
  | .str x => .str x
  | _ => .non
section
variable {prog : Program} {w : World} {A : Around} {E : Value → Shared → Prop} {s : Shared}
theorem str_of_toks {x y : Str} (h : x.cps.toList = y.cps.toList) : x = y := by
  cases x; cases y
  simp only [Str.mk.injEq]
  exact Array.toList_inj.mp h
theorem eqA {x y : D} {p q : Value} (hx : okA x = true) (hy : okA y = true) (rp : RelV (vA x) p) (rq : RelV (vA y) q) : SeqAt.EqAt A s p q (decide (atomOf x = atomOf y)) := by
  have hs : ∀ a b : Str, (a == b) = decide (Atm.s a.cps.toList = Atm.s b.cps.toList) := fun a b => by
    by_cases h : a = b
    · subst h; simp
    · have h2 : ¬ Atm.s a.cps.toList = Atm.s b.cps.toList := fun e => h (str_of_toks (Atm.s.inj e))
      rw [decide_eq_false h2]
      exact beq_false_of_ne h
  cases x <;> first | (cases hx; done) | skip
  · obtain rfl : p = Value.none := rp
    cases y <;> first | (cases hy; done) | skip
    · obtain rfl : q = Value.none := rq
      exact SeqAt.EqAt.same _
    · obtain ⟨u, rfl⟩ := rq
      exact SeqAt.EqAt.none_int _ _
    · obtain ⟨u, rfl⟩ := rq
      exact SeqAt.EqAt.none_str _ _
  · obtain ⟨t, rfl⟩ := rp
    cases y <;> first | (cases hy; done) | skip
    · obtain rfl : q = Value.none := rq
      exact SeqAt.EqAt.int_none _ _
    · rename_i a b
      obtain ⟨u, rfl⟩ := rq
      have e : (a == b) = decide (atomOf (.int a) = atomOf (.int b)) := by
        by_cases h : a = b
        · subst h; simp
        · have : ¬ Atm.i a = Atm.i b := fun z => h (Atm.i.inj z)
          rw [show atomOf (.int a) = Atm.i a from rfl, show atomOf (.int b) = Atm.i b from rfl, decide_eq_false this]
          exact beq_false_of_ne h
      rw [← e]
      exact SeqAt.EqAt.int_int _ _ _ _
    · obtain ⟨u, rfl⟩ := rq
      exact SeqAt.EqAt.int_str _ _ _ _
  · obtain ⟨t, rfl⟩ := rp
    cases y <;> first | (cases hy; done) | skip
    · obtain rfl : q = Value.none := rq
      exact SeqAt.EqAt.str_none _ _
    · obtain ⟨u, rfl⟩ := rq
      exact SeqAt.EqAt.str_int _ _ _ _
    · rename_i a b
      obtain ⟨u, rfl⟩ := rq
      show SeqAt.EqAt A s _ _ (decide (Atm.s a.cps.toList = Atm.s b.cps.toList))
      rw [← hs]
      exact SeqAt.EqAt.str_str _ _ _ _
theorem lexV {b fin : Bool} {Q : Bool → Shared → Prop} : ∀ (xs ys : List D) (ps qs : List Value) (i : Nat), Vals (xs.map vA) ps → Vals (ys.map vA) qs → xs.all okA = true → ys.all okA = true → cmpO xs ys = true →
    fin = decide (ps.length < qs.length) → Q (lexA (xs.map atomOf) (ys.map atomOf)) s → KatLex prog w A b fin Q (ps.zip qs) i s
  | [], [], _, _, i, .nil, .nil, _, _, _, hf, h => by
    have e : fin = false := by rw [hf]; rfl
    subst e
    exact kat_nil h
  | [], y :: ys, _, _, i, .nil, .cons r t, _, _, _, hf, h => by
    have e : fin = true := by rw [hf]; exact decide_eq_true (Nat.succ_pos _)
    subst e
    exact kat_nil h
  | x :: xs, [], _, _, i, .cons r t, .nil, _, _, _, hf, h => by
    have e : fin = false := by rw [hf]; exact decide_eq_false (Nat.not_lt_zero _)
    subst e
    exact kat_nil h
  | x :: xs, y :: ys, p :: ps, q :: qs, i, .cons r t, .cons r2 t2, ha, hb, hc, hf, h => by
    have hf' : fin = decide (ps.length < qs.length) := by
      rw [hf]; simp only [List.length_cons, Nat.add_lt_add_iff_right]
    have ha' := (Bool.and_eq_true _ _).mp ha
    have hb' := (Bool.and_eq_true _ _).mp hb
    refine kat_cons (eqA ha'.1 hb'.1 r r2 _ _ _ _ ?_)
    refine kat_go (fun e0 => kat_yes ?_) (fun e0 => kat_no ?_)
    · have e := of_decide_eq_true e0
      clear e0
      rw [cmpO, if_pos e] at hc
      rw [List.map_cons, List.map_cons, e, lexA_self] at h
      exact lexV xs ys ps qs (i + 1) t t2 ha'.2 hb'.2 hc hf' h
    · have e := of_decide_eq_false e0
      clear e0
      rw [cmpO, if_neg e] at hc
      cases x <;> cases y <;> first | (cases hc; done) | skip
      · rename_i m n
        obtain ⟨u, rfl⟩ := r
        obtain ⟨u2, rfl⟩ := r2
        refine oneLt_any_int ?_
        have hmn : m ≠ n := fun z => e (by rw [z])
        have e2 : lexA ((D.int m :: xs).map atomOf) ((D.int n :: ys).map atomOf) = decide (m < n) := by
          show (if decide (m < n) = true then true else if decide (n < m) = true then false else _) = _
          by_cases h1 : m < n
          · rw [if_pos (decide_eq_true h1), decide_eq_true h1]
          · rw [if_neg (by simpa using h1), if_pos (decide_eq_true (show n < m by omega)), decide_eq_false h1]
        rw [e2] at h
        exact h
      · rename_i m n
        obtain ⟨u, rfl⟩ := r
        obtain ⟨u2, rfl⟩ := r2
        refine oneLt_any_str ?_
        have hmn : m.cps.toList ≠ n.cps.toList := fun z => e (by show Atm.s _ = Atm.s _; rw [z])
        have e2 : lexA ((D.str m :: xs).map atomOf) ((D.str n :: ys).map atomOf) = decide (m.cps.toList < n.cps.toList) := by
          show (if decide (m.cps.toList < n.cps.toList) = true then true else if decide (n.cps.toList < m.cps.toList) = true then false else _) = _
          by_cases h1 : m.cps.toList < n.cps.toList
          · rw [if_pos (decide_eq_true h1), decide_eq_true h1]
          · have h2 : n.cps.toList < m.cps.toList := by
              rcases List.le_iff_lt_or_eq.mp (List.not_lt.mp h1) with h2 | h2
              · exact h2
              · exact absurd h2.symm hmn
            rw [if_neg (by simpa using h1), if_pos (decide_eq_true h2), decide_eq_false h1]
        rw [e2] at h
        exact h
/-- a tuple of such things -/
def TupA (h : Heap) (v : Value) (ds : List D) : Prop := ∃ t o its n, v = .ref t ∧ h.get? t = some o ∧ o.cls = .type "tuple" ∧ o.data = .seq its n ∧ Vals (ds.map vA) its.toList
theorem TupA.keeps {h h' : Heap} {v : Value} {ds : List D} (p : TupA h v ds) (k : ∀ b o, h.get? b = some o → o.cls = .type "tuple" → h'.get? b = some o) : TupA h' v ds := by
  obtain ⟨t, o, its, n, e, ho, hc, r⟩ := p
  exact ⟨t, o, its, n, e, k _ _ ho hc, hc, r⟩
theorem sortOk_items {xs : List D} (h : sortOk xs = true) : ∀ x, x ∈ xs → ∃ ds, x = .tup ds ∧ ds.all okA = true := by
  intro x hx
  have h1 := (Bool.and_eq_true _ _).mp h
  rcases Bool.or_eq_true _ _ |>.mp h1.1 with h2 | h2
  · have := List.all_eq_true.mp h2 x hx
    unfold hdI at this
    split at this
    · rename_i i r
      exact ⟨_, rfl, by rw [List.all_cons, this]; rfl⟩
    · cases this
  · have := List.all_eq_true.mp h2 x hx
    unfold hdS at this
    split at this
    · rename_i i r
      exact ⟨_, rfl, by rw [List.all_cons, this]; rfl⟩
    · cases this
theorem sortOk_cmp {xs : List D} (h : sortOk xs = true) {x y : List D} (hx : .tup x ∈ xs) (hy : .tup y ∈ xs) : cmpO x y = true := by
  have h1 := (Bool.and_eq_true _ _).mp h
  exact List.all_eq_true.mp (List.all_eq_true.mp h1.2 _ hx) _ hy
theorem sortOk_head {xs : List D} (h : sortOk xs = true) : (∀ x, x ∈ xs → ∃ i r, x = .tup (.int i :: r)) ∨ (∀ x, x ∈ xs → ∃ i r, x = .tup (.str i :: r)) := by
  have h1 := (Bool.and_eq_true _ _).mp h
  rcases Bool.or_eq_true _ _ |>.mp h1.1 with h2 | h2
  · refine .inl fun x hx => ?_
    have := List.all_eq_true.mp h2 x hx
    unfold hdI at this
    split at this
    · exact ⟨_, _, rfl⟩
    · cases this
  · refine .inr fun x hx => ?_
    have := List.all_eq_true.mp h2 x hx
    unfold hdS at this
    split at this
    · exact ⟨_, _, rfl⟩
    · cases this
theorem tupsOf_mk {h : Heap} {U : Value → List D} {b : Bool} : ∀ {vs : List Value}, (∀ v, v ∈ vs → TupA h v (U v) ∧ (if b = true then ∃ i r, U v = .str i :: r else ∃ i r, U v = .int i :: r)) → ∃ fs, TupsOf h (fun _ => b) vs fs ∧ fs.length = vs.length
  | [], _ => ⟨[], .nil, rfl⟩
  | v :: vs, hv => by
    obtain ⟨fs, h1, h2⟩ := tupsOf_mk (vs := vs) fun v hm => hv v (List.mem_cons_of_mem _ hm)
    obtain ⟨⟨t, o, its, n, e, ho, hc, hd, r⟩, hh⟩ := hv v List.mem_cons_self
    have key : ∃ f, its[0]? = some f ∧ (b = false → ∃ k t, f = .int k t) ∧ (b = true → ∃ x t, f = .str x t) := by
      have hits : its[0]? = its.toList[0]? := by rw [Array.getElem?_toList]
      rw [hits]
      cases b with
      | true =>
        rw [if_pos rfl] at hh
        obtain ⟨i, r', eu⟩ := hh
        rw [eu] at r
        generalize its.toList = l at r
        cases r with
        | cons r1 r2 =>
          obtain ⟨u, rfl⟩ := r1
          exact ⟨_, rfl, (fun z => nomatch z), fun _ => ⟨_, _, rfl⟩⟩
      | false =>
        rw [if_neg (by decide)] at hh
        obtain ⟨i, r', eu⟩ := hh
        rw [eu] at r
        generalize its.toList = l at r
        cases r with
        | cons r1 r2 =>
          obtain ⟨u, rfl⟩ := r1
          exact ⟨_, rfl, (fun _ => ⟨_, _, rfl⟩), fun z => nomatch z⟩
    obtain ⟨f, hf, k1, k2⟩ := key
    exact ⟨f :: fs, .cons ⟨t, o, its, n, e, ho, hc, hd, hf, k1, k2⟩ h1, by simp [h2]⟩
abbrev uLt (U : Value → List D) (v u : Value) : Bool := tLt (.tup (U v)) (.tup (U u))
theorem uLt_swo (U : Value → List D) : SrtO.Swo (uLt U) := swo_map (lexA_swo) fun v => (U v).map atomOf
theorem tups_sortable {a : Addr} {vs : List Value} {U : Value → List D} (h0 : 0 < vs.length) (ok : sortOk (vs.map fun v => .tup (U v)) = true) (hp : ∀ v, v ∈ vs → TupA s.heap v (U v)) (ha : ∀ o, s.heap.get? a = some o → o.cls ≠ .type "tuple") : SrtO.SortableO prog w A s a vs (uLt U) := by
  intro h' keep
  have hp' : ∀ v, v ∈ vs → TupA h' v (U v) := fun v hm => (hp v hm).keeps fun b o e c => keep b o (fun z => by subst z; exact ha o e c) e
  refine ⟨tuples' true, fun Q E hq => ?_, fun p q hm hm' => ?_⟩
  · rcases sortOk_head ok with hh | hh
    · obtain ⟨fs, h1, h2⟩ := tupsOf_mk (h := h') (U := U) (b := false) (vs := vs) fun v hv => ⟨hp' v hv, by
        rw [if_neg (by decide)]
        obtain ⟨i, r, e⟩ := hh _ (List.mem_map_of_mem hv)
        injection e with e
        exact ⟨i, r, e⟩⟩
      exact tup_kind (s := { s with heap := h' }) (by omega) h1 hq
    · obtain ⟨fs, h1, h2⟩ := tupsOf_mk (h := h') (U := U) (b := true) (vs := vs) fun v hv => ⟨hp' v hv, by
        rw [if_pos rfl]
        obtain ⟨i, r, e⟩ := hh _ (List.mem_map_of_mem hv)
        injection e with e
        exact ⟨i, r, e⟩⟩
      exact tup_kind (s := { s with heap := h' }) (by omega) h1 hq
  · obtain ⟨t, o, its, n, e, ho, hc, hd, r⟩ := hp' _ hm
    obtain ⟨t2, o2, its2, n2, e2, ho2, hc2, hd2, r2⟩ := hp' _ hm'
    obtain ⟨ds, e3, k1⟩ := sortOk_items ok (.tup (U p.1)) (List.mem_map_of_mem (f := fun v => D.tup (U v)) hm)
    obtain ⟨ds2, e4, k2⟩ := sortOk_items ok (.tup (U q.1)) (List.mem_map_of_mem (f := fun v => D.tup (U v)) hm')
    injection e3 with e3
    injection e4 with e4
    subst e3
    subst e4
    have kc := sortOk_cmp ok (List.mem_map_of_mem (f := fun v => D.tup (U v)) hm) (List.mem_map_of_mem (f := fun v => D.tup (U v)) hm')
    show wpAny (model prog w) A (keyLt' (tuples' true) p.1 q.1) (fun r s' => s' = { s with heap := h' } ∧ r = uLt U p.1 q.1) (fun _ _ => False) { s with heap := h' }
    rw [e, e2]
    refine kat_lt (s := { s with heap := h' }) ho hd ho2 hd2 ?_
    refine lexV (U p.1) (U q.1) its.toList its2.toList 0 r r2 k1 k2 kc (by rw [Array.length_toList, Array.length_toList]) ?_
    rw [← e, ← e2]
    exact ⟨rfl, rfl⟩
theorem sorted_tups {l : Addr} {vs : List Value} {U : Value → List D} {Q : Value → Shared → Prop} (hl : s.heap.IsList l vs.toArray) (hz : vs.length ≤ sizeLine) (ok : sortOk (vs.map fun v => .tup (U v)) = true) (hp : ∀ v, v ∈ vs → TupA s.heap v (U v))
    (h : ∀ (h' : Heap) (d : Addr) (out : List Value), SrtO.Srtd (uLt U) out → SrtO.Stb (uLt U) out vs → (∀ b o, s.heap.get? b = some o → h'.get? b = some o) → s.heap.objs.size ≤ d → (∃ n, h'.get? d = some (seqObj "list" out.toArray n)) → Q (.ref d) { s with heap := h' }) :
    wpAny (model prog w) A (call (.builtin "sorted") [.ref l]) Q E s := by
  refine SrtO.sorted_ord (uLt_swo U) hl hz (fun h2 h₁ a ha kk => ?_) fun out hs hb => ?_
  · refine tups_sortable (s := { s with heap := h₁ }) (by omega) ok (fun v hm => (hp v hm).keeps fun b o e _ => (kk b o e).2) fun o e => ?_
    have e' : some o = some (seqObj "list" vs.toArray 0) := e.symm.trans ha
    cases e'
    intro c
    exact absurd (Value.type.inj c) (by decide)
  · exact h _ _ out hs hb (fun b o e => sortedAll_old e) (Nat.le_succ _) (sortedAll_at s.heap vs out.toArray)
end
theorem stb_symm {α : Type} {lt : α → α → Bool} {l m : List α} (h : SrtO.Stb lt l m) : SrtO.Stb lt m l := ⟨h.perm.symm, fun x => (h.cls x).symm⟩
def rSortT (K : PySem.W.Frag) : List V → Hp → VK → Prop := fun vs H Q => ∃ (a : Addr) (ps : List (List D × V)), vs = [V.ref a] ∧ SqL K H a (ps.map (·.2)) ∧ (∀ p, p ∈ ps → ∃ t, p.2 = V.ref t ∧ SqT K H t (p.1.map vA)) ∧ sortOk (ps.map fun p => .tup p.1) = true ∧
  ∀ q, H q = none → Q (.ref q) (upd H q (.lst ((srtBy (fun x y => tLt (.tup x.1) (.tup y.1)) ps).map (·.2))))
theorem vA_inj {x y : D} (hx : okA x = true) (hy : okA y = true) (h : vA x = vA y) : x = y := by
  cases x <;> first | (cases hx; done) | (cases y <;> first | (cases hy; done) | (cases h; done) | skip)
  · rfl
  · injection h with h; rw [h]
  · injection h with h; rw [h]
theorem vAs_inj : ∀ {xs ys : List D}, xs.all okA = true → ys.all okA = true → xs.map vA = ys.map vA → xs = ys
  | [], [], _, _, _ => rfl
  | [], _ :: _, _, _, h => by cases h
  | _ :: _, [], _, _, h => by cases h
  | x :: xs, y :: ys, hx, hy, h => by
    have hx := (Bool.and_eq_true _ _).mp hx
    have hy := (Bool.and_eq_true _ _).mp hy
    injection h with h1 h2
    rw [vA_inj hx.1 hy.1 h1, vAs_inj hx.2 hy.2 h2]
/-- what stands behind a value, by the first pair that has it -/
def lookU : List (List D × V) → V → List D
  | [], _ => []
  | p :: ps, v => if p.2 = v then p.1 else lookU ps v
theorem lookU_eq : ∀ {ps : List (List D × V)}, (∀ p q, p ∈ ps → q ∈ ps → p.2 = q.2 → p.1 = q.1) → ∀ p, p ∈ ps → lookU ps p.2 = p.1
  | [], _, p, h => nomatch h
  | q :: ps, hf, p, h => by
    unfold lookU
    by_cases e : q.2 = p.2
    · rw [if_pos e]
      exact hf q p List.mem_cons_self h e
    · rw [if_neg e]
      rcases List.mem_cons.mp h with rfl | h
      · exact absurd rfl e
      · exact lookU_eq (fun p q hp hq => hf p q (List.mem_cons_of_mem _ hp) (List.mem_cons_of_mem _ hq)) p h
theorem cr_sortT {X : Cx} : CallR X (.builtin "sorted") (rSortT X.K) := by
  intro pins s σ H vs us Q I r h
  obtain ⟨a, ps, rfl, hs, hx, ok, q⟩ := h
  obtain ⟨its, rv, hl, hz⟩ := I.list hs
  obtain ⟨u, rfl, ru⟩ := vals1 r
  obtain rfl : u = Value.ref a := ru
  obtain ⟨e1, e2⟩ := refs_back rv fun x m => by
    obtain ⟨p, hp, rfl⟩ := List.mem_map.mp m
    obtain ⟨t, e, _⟩ := hx p hp
    exact ⟨t, e⟩
  have items : ∀ p, p ∈ ps → p.1.all okA = true := fun p hp => by
    obtain ⟨ds, e, k⟩ := sortOk_items ok (.tup p.1) (List.mem_map_of_mem (f := fun p : List D × V => D.tup p.1) hp)
    injection e with e
    rw [e]
    exact k
  have inj : ∀ p q, p ∈ ps → q ∈ ps → p.2 = q.2 → p.1 = q.1 := fun p q hp hq e => by
    obtain ⟨t, e3, h3⟩ := hx p hp
    obtain ⟨t2, e4, h4⟩ := hx q hq
    rw [e3, e4] at e
    cases e
    exact vAs_inj (items p hp) (items q hq) (I.tuple_inj h3 h4)
  have look := lookU_eq inj
  have em : its.map (fun u => D.tup (lookU ps (backV u))) = ps.map fun p => .tup p.1 := by
    have : its.map (fun u => D.tup (lookU ps (backV u))) = (its.map backV).map fun v => D.tup (lookU ps v) := by rw [List.map_map]; rfl
    rw [this, ← e1, List.map_map]
    exact List.map_congr_left fun p hp => by show D.tup (lookU ps p.2) = _; rw [look p hp]
  refine sorted_tups (U := fun u => lookU ps (backV u)) hl.isList (by rw [← rv.length]; exact hz) (by rw [em]; exact ok) (fun v hv => ?_) fun h' d out h1 h2 kp hd hn => ?_
  · obtain ⟨t, rfl⟩ := e2 v hv
    have hm : V.ref t ∈ ps.map (·.2) := by rw [e1]; exact List.mem_map.mpr ⟨_, hv, rfl⟩
    obtain ⟨p, hp, ep⟩ := List.mem_map.mp hm
    obtain ⟨t', e, ht⟩ := hx p hp
    rw [ep] at e
    cases e
    obtain ⟨its2, r2, isT, _⟩ := I.tuple ht
    obtain ⟨o, ho, hc, n, hd⟩ := isT
    refine ⟨t, o, its2.toArray, n, rfl, ho, hc, hd, ?_⟩
    show Vals ((lookU ps (V.ref t)).map vA) _
    rw [← ep, look p hp]
    simpa using r2
  · have h3 : ∀ u ∈ out, ∃ a, u = Value.ref a := fun u hu => e2 u (h2.perm.mem_iff.mp hu)
    obtain ⟨n, hn⟩ := hn
    have O : SrtO.Swo fun x y : V => tLt (.tup (lookU ps x)) (.tup (lookU ps y)) := swo_map lexA_swo fun v => (lookU ps v).map atomOf
    have hb : SrtO.Stb (fun x y : V => tLt (.tup (lookU ps x)) (.tup (lookU ps y))) (out.map backV) (ps.map (·.2)) := by
      rw [e1]
      exact SrtO.Stb.map O backV h2
    have hsd : SrtO.Srtd (fun x y : V => tLt (.tup (lookU ps x)) (.tup (lookU ps y))) (out.map backV) := SrtO.srtd_map h1
    have same : ∀ qs : List (List D × V), (∀ p, p ∈ qs → p ∈ ps) → srtBy (fun x y : V => tLt (.tup (lookU ps x)) (.tup (lookU ps y))) (qs.map (·.2)) = (srtBy (fun x y => tLt (.tup x.1) (.tup y.1)) qs).map (·.2) := by
      intro qs hq
      rw [srtBy_map]
      congr 1
      induction qs with
      | nil => rfl
      | cons p qs ih =>
        have ih := ih fun p hp => hq p (List.mem_cons_of_mem _ hp)
        show insBy _ p (srtBy _ qs) = insBy _ p (srtBy _ qs)
        rw [ih]
        have hm : ∀ r, r ∈ srtBy (fun x y : List D × V => tLt (.tup x.1) (.tup y.1)) qs → r ∈ ps := fun r hr => hq r (List.mem_cons_of_mem _ (srtBy_mem.mp hr))
        generalize srtBy (fun x y : List D × V => tLt (.tup x.1) (.tup y.1)) qs = rs at hm
        induction rs with
        | nil => rfl
        | cons r rs ih2 =>
          rw [insBy, insBy, ih2 fun r hr => hm r (List.mem_cons_of_mem _ hr), look r (hm r List.mem_cons_self), look p (hq p List.mem_cons_self)]
    have eo : out.map backV = (srtBy (fun x y => tLt (.tup x.1) (.tup y.1)) ps).map (·.2) := by
      rw [← same ps fun p hp => hp]
      exact SrtO.stb_uniq O hsd (srtBy_srtd O) (hb.trans (stb_symm (srtBy_stb O)))
    refine ⟨.ref d, upd H d (.lst (out.map backV)), I.laid (t' := s.toks) kp hd ⟨?_, out, n, vals_back h3, hn⟩, rfl, ?_⟩
    · rw [hb.len]
      exact hz
    · rw [eo]
      exact q d (I.hok.fresh hd)
end Mn

/-! Mn B: the small language and what it computes. -/
namespace Mn
open PySem L2

/-! ### operations on data -/
inductive BOp | add | sub | mul | fdiv | mod | pow | shl | shr | band | bor
  deriving DecidableEq
inductive COp | eq | ne | lt | le | gt | ge | inn | nin | is | isn
  deriving DecidableEq
inductive BI | len | int | abs | min2 | max2 | list | tuple | sorted | repr | str | all | any | sum | divmod | sortset | lenset | listrange | max1 | min1
  deriving DecidableEq
/-- methods of built-in types that change nothing -/
inductive MT | join | strip | upper | split | get2 | get1 | count | index | zfill
  deriving DecidableEq
/-- methods that change a list, a dict -/
inductive MU | append | extend | reverse | insert | pop0 | pop1 | clear | remove | update
  deriving DecidableEq

mutual
def eqD : D → D → Bool
  | .non, .non => true
  | .bl a, .bl b => a == b
  | .bl a, .int j => (if a then (1 : Int) else 0) == j
  | .int i, .bl b => i == (if b then (1 : Int) else 0)
  | .int i, .int j => i == j
  | .str x, .str y => x == y
  | .tup xs, .tup ys => eqDs xs ys
  | .lst _ xs, .lst _ ys => eqDs xs ys
  | .lst _ xs, .scr ys => eqDs xs ys
  | .scr xs, .lst _ ys => eqDs xs ys
  | .scr xs, .scr ys => eqDs xs ys
  | _, _ => false
def eqDs : List D → List D → Bool
  | [], [] => true
  | x :: xs, y :: ys => eqD x y && eqDs xs ys
  | _, _ => false
end
mutual
/-- plain data of at most so many levels -/
def plain : Nat → D → Bool
  | n, .tup xs => n != 0 && plains (n - 1) xs
  | n, .lst _ xs => n != 0 && plains (n - 1) xs
  | n, .scr xs => n != 0 && plains (n - 1) xs
  | _, .dk _ _ _ => false
  | _, .ins _ _ _ _ => false
  | _, _ => true
def plains : Nat → List D → Bool
  | _, [] => true
  | n, x :: xs => plain n x && plains n xs
end
mutual
/-- no own nodes -/
def nod : D → Bool
  | .tup xs => nods xs
  | .lst o xs => !o && nods xs
  | .scr xs => nods xs
  | .dk o _ xs => !o && nods xs
  | .ins o _ _ xs => !o && nods xs
  | _ => true
def nods : List D → Bool
  | [] => true
  | x :: xs => nod x && nods xs
end
/-- None, truths, numbers, texts -/
def flat : D → Bool
  | .non => true | .bl _ => true | .int _ => true | .str _ => true
  | _ => false

def insU (k : Int) : List Int → List Int
  | [] => [k]
  | x :: xs => if k < x then k :: x :: xs else if k = x then x :: xs else x :: insU k xs
/-- the numbers, rising, each once -/
def srt (ks : List Int) : List Int := ks.foldr insU []
/-- an own list of shared things -/
def kidD : D → Bool
  | .lst true xs => nods xs
  | _ => false
def sm64 (i : Int) : Bool := decide (-(2 ^ 64) < i ∧ i < 2 ^ 64)
def binD : BOp → D → D → Option D
  | .add, .int i, .int j => some (.int (i + j))
  | .add, .str x, .str y => if x.length + y.length ≤ sizeLine then some (.str (x ++ y)) else none
  | .add, .lst _ xs, .lst _ ys => if xs.length + ys.length ≤ sizeLine then some (.lst true (xs ++ ys)) else none
  | .add, .tup xs, .tup ys => if xs.length + ys.length ≤ sizeLine then some (.tup (xs ++ ys)) else none
  | .sub, .int i, .int j => some (.int (i - j))
  | .mul, .int i, .int j => if sm64 i || sm64 j then some (.int (i * j)) else none
  | .mul, .lst _ xs, .int k => if -(2 ^ 63) ≤ k ∧ k < 2 ^ 63 ∧ xs.length * k.toNat ≤ sizeLine then some (.lst true (List.replicate k.toNat xs).flatten) else none
  | .mul, .str x, .int k => if 2 ≤ k ∧ k ≤ 64 ∧ x.length * k.toNat ≤ sizeLine then some (.str ⟨(List.replicate k.toNat x.cps.toList).flatten.toArray⟩) else none
  | .fdiv, .int i, .int j => if 0 < j ∧ j.natAbs.log2 < 9000 then some (.int (i / j)) else none
  | .mod, .int i, .int j => if 0 < j then some (.int (i % j)) else none
  | .pow, .int i, .int j => if 0 ≤ j ∧ j ≤ 1000000 ∧ i.natAbs < 2 ^ 64 then some (.int (i ^ j.toNat)) else none
  | .shl, .int i, .int j => if 0 ≤ j ∧ j ≤ 1000000 ∧ i.natAbs < 2 ^ 64 then some (.int (i * 2 ^ j.toNat)) else none
  | .shr, .int i, .int j => if 0 ≤ j then some (.int (i / 2 ^ j.toNat)) else none
  | .band, .int i, .int j => some (.int (Builtin.bitAnd i j))
  | .bor, .int i, .int j => some (.int (Builtin.bitOr i j))
  | _, _, _ => none

def keyD : D → Option Key
  | .int i => some (.inl i)
  | .str s => some (.inr s)
  | _ => none
def getK (k : Key) : List Key → List D → Option D
  | c :: ks, x :: xs => if c = k then some x else getK k ks xs
  | _, _ => none
def cmpD : COp → D → D → Option Bool
  | .eq, d, e => if plain 60 d && plain 60 e then some (eqD d e) else none
  | .ne, d, e => if plain 60 d && plain 60 e then some (!eqD d e) else none
  | .lt, .int i, .int j => some (decide (i < j))
  | .le, .int i, .int j => some (decide (i ≤ j))
  | .gt, .int i, .int j => some (decide (j < i))
  | .ge, .int i, .int j => some (decide (j ≤ i))
  | .lt, .str i, .str j => some (decide (i.cps.toList < j.cps.toList))
  | .inn, d, .lst _ xs => if flat d && xs.all flat then some (xs.any fun y => eqD y d) else none
  | .inn, d, .tup xs => if flat d && xs.all flat then some (xs.any fun y => eqD y d) else none
  | .nin, d, .lst _ xs => if flat d && xs.all flat then some (!xs.any fun y => eqD y d) else none
  | .nin, d, .tup xs => if flat d && xs.all flat then some (!xs.any fun y => eqD y d) else none
  | .inn, .str i, .str j => some (!(Builtin.Str.occurrences j i 0 j.length 1).isEmpty)
  | .nin, .str i, .str j => some (!(!(Builtin.Str.occurrences j i 0 j.length 1).isEmpty))
  | .inn, d, .dk _ ks xs => (keyD d).map fun k => (getK k ks xs).isSome
  | .nin, d, .dk _ ks xs => (keyD d).map fun k => !(getK k ks xs).isSome
  | .is, .non, .non => some true
  | .is, _, .non => some false
  | .isn, .non, .non => some false
  | .isn, _, .non => some true
  | _, _, _ => none
def truthD : D → Option Bool
  | .non => some false
  | .bl b => some b
  | .int i => some (i != 0)
  | .str y => if y.length ≤ sizeLine then some ((y.length : Int) != 0) else none
  | .lst _ xs => some (!xs.isEmpty)
  | .tup xs => some (!xs.isEmpty)
  | .scr xs => some (!xs.isEmpty)
  | .dk _ ks _ => some (!ks.isEmpty)
  | _ => none
def ixD : D → D → Option D
  | .lst _ xs, .int i => atI xs i
  | .tup xs, .int i => atI xs i
  | .scr xs, .int i => atI xs i
  | .str z, .int i => if z.length ≤ sizeLine then (atI z.cps.toList i).map fun c => .str ⟨#[c]⟩ else none
  | .dk _ ks xs, d => (keyD d).bind fun k => getK k ks xs
  | _, _ => none
def cutL {α : Type} (xs : List α) (lo hi : Option Int) : List α := (xs.drop (HT.sIx xs.length 0 lo)).take (HT.sIx xs.length xs.length hi - HT.sIx xs.length 0 lo)
def slD (d : D) (l h : Option Int) : Option D :=
  match d with
  | .lst _ xs => some (.lst true (cutL xs l h))
  | .scr xs => some (.lst true (cutL xs l h))
  | .tup xs => some (.tup (cutL xs l h))
  | .str z => if z.length ≤ sizeLine then some (.str ⟨(cutL z.cps.toList l h).toArray⟩) else none
  | _ => none
def ints? : List D → Option (List Int)
  | [] => some []
  | .int i :: xs => (ints? xs).map (i :: ·)
  | _ => none
def strs? : List D → Option (List Str)
  | [] => some []
  | .str i :: xs => (strs? xs).map (i :: ·)
  | _ => none
def bls? : List D → Option (List Bool)
  | [] => some []
  | .bl i :: xs => (bls? xs).map (i :: ·)
  | _ => none
/-- sorted(set(..)) of numbers -/
def srtD : D → Option D
  | .lst _ xs => (ints? xs).bind fun ks => if ks.length ≤ 4000 ∧ (srt ks).length ≤ 4000 then some (.lst true ((srt ks).map .int)) else none
  | _ => none
/-- max(numbers, default=d), min(..) -/
def mxD (mn : Bool) (d : D) : D → Option D
  | .lst _ xs => (ints? xs).map fun ns => ((if mn then ns.min? else ns.max?).map D.int).getD d
  | _ => none
def seqD : D → Option (List D)
  | .lst _ xs => some xs
  | .tup xs => some xs
  | .scr xs => some xs
  | _ => none
def sortI (ns : List Int) : List Int := ns.mergeSort fun a b => decide (a ≤ b)
def leS (a b : Str) : Bool := decide (a.cps.toList ≤ b.cps.toList)
def sortS (ns : List Str) : List Str := ns.mergeSort leS
def lenD : D → Option Nat
  | .lst _ xs => some xs.length
  | .tup xs => some xs.length
  | .scr xs => some xs.length
  | .str y => if y.length ≤ sizeLine then some y.length else none
  | .dk _ ks _ => some ks.length
  | _ => none
mutual
/-- as plain data of the model -/
def toPy : D → PyData
  | .non => .none
  | .bl b => .bool b
  | .int i => .int i
  | .str s => .str s
  | .tup xs => .tuple (toPys xs)
  | .lst _ xs => .list (toPys xs)
  | .scr xs => .list (toPys xs)
  | .dk _ _ _ => .none
  | .ins _ _ _ _ => .none
def toPys : List D → List PyData
  | [] => []
  | x :: xs => toPy x :: toPys xs
end
def dispD : D → Bool
  | .lst _ _ => true
  | .tup _ => true
  | .non => true
  | .bl _ => true
  | .int _ => true
  | .str _ => true
  | _ => false
def biD : BI → List D → Option D
  | .len, [d] => (lenD d).map fun (n : Nat) => D.int (n : Int)
  | .int, [.int i] => some (.int i)
  | .int, [.bl b] => some (.int (if b then 1 else 0))
  | .abs, [.int i] => some (.int (if i < 0 then -i else i))
  | .min2, [.int i, .int j] => some (.int (if j < i then j else i))
  | .max2, [.int i, .int j] => some (.int (if j > i then j else i))
  | .list, [d] => (seqD d).map fun xs => .lst true xs
  | .tuple, [d] => (seqD d).map fun xs => .tup xs
  | .sorted, [.lst _ xs] => match ints? xs with
    | some ns => some (.lst true ((sortI ns).map .int))
    | none => match strs? xs with
      | some ss => if ss.length < 64 then some (.lst true ((sortS ss).map .str)) else none
      | none => (sortT xs).map fun ys => .lst true ys
  | .repr, [d] => if dispD d && (plain 60 d && (toPy d).showable && decide ((toPy d).shown.length ≤ sizeLine)) then some (.str (toPy d).shown) else none
  | .str, [.int i] => if i.natAbs.log2 < 1920 then some (.str (toString i)) else none
  | .all, [.lst _ xs] => (bls? xs).map fun bs => .bl (bs.all id)
  | .any, [.lst _ xs] => (bls? xs).map fun bs => .bl (bs.any id)
  | .sum, [.lst _ xs] => (ints? xs).map fun ns => .int ns.sum
  | .divmod, [.int i, .int j] => if 0 < j ∧ j < 1073741824 then some (.tup [.int (i / j), .int (i % j)]) else none
  | .max1, [.lst _ xs] => (ints? xs).bind fun ns => ns.max?.map .int
  | .min1, [.lst _ xs] => (ints? xs).bind fun ns => ns.min?.map .int
  | _, _ => none
def mtD : MT → D → List D → Option D
  | .join, .str a, [d] => (seqD d).bind fun xs => (strs? xs).bind fun ys => if (ys.map (·.length)).sum + ys.length * a.length ≤ 16777216 then some (.str (Str.join a ys)) else none
  | .split, .str a, [.str b] => if (b.length == 0) = false ∧ a.length + 2 ≤ sizeLine ∧ (Txt.split a b).all PyData.strOk = true then some (.lst true ((Txt.split a b).map .str)) else none
  | .get2, .dk _ ks xs, [k, z] => (keyD k).bind fun c => if flat ((getK c ks xs).getD z) then some ((getK c ks xs).getD z) else none
  | _, _, _ => none
/-- what the method tells, and the node behind it -/
def muD : MU → D → List D → Option (D × D)
  | .append, .lst true xs, [y] => if xs.length < sizeLine then some (.non, .lst true (xs ++ [y])) else none
  | .reverse, .lst true xs, [] => some (.non, .lst true xs.reverse)
  | .clear, .lst true xs, [] => some (.non, .lst true [])
  | .extend, .lst true xs, [.lst _ ys] => if xs.length + ys.length ≤ sizeLine then some (.non, .lst true (xs ++ ys)) else none
  | .pop0, .lst true xs, [] => (xs[xs.length - 1]?).map fun y => (y, .lst true xs.dropLast)
  | .insert, .lst true xs, [.int i, y] => if xs.length < sizeLine ∧ 0 ≤ i ∧ i < 2 ^ 63 then some (.non, .lst true (xs.take i.toNat ++ [y] ++ xs.drop i.toNat)) else none
  | _, _, _ => none
/-- name op= value, of flat values -/
def augD : BOp → D → D → Option D
  | .add, .int i, .int j => some (.int (i + j))
  | .add, .str x, .str y => if x.length + y.length ≤ sizeLine then some (.str (x ++ y)) else none
  | .sub, .int i, .int j => some (.int (i - j))
  | .mul, .int i, .int j => if sm64 i || sm64 j then some (.int (i * j)) else none
  | .fdiv, .int i, .int j => if 0 < j ∧ j < 1073741824 then some (.int (i / j)) else none
  | .mod, .int i, .int j => if 0 < j then some (.int (i % j)) else none
  | .shr, .int i, .int j => if 0 ≤ j then some (.int (i / 2 ^ j.toNat)) else none
  | .band, .int i, .int j => some (.int (Builtin.bitAnd i j))
  | .bor, .int i, .int j => some (.int (Builtin.bitOr i j))
  | _, _, _ => none
/-- a[k] = v -/
def setD : D → D → D → Option D
  | .lst true xs, .int i, v => (ixN xs.length i).map fun j => .lst true (xs.set j v)
  | .dk true ks xs, k, v => (keyD k).bind fun c => if ks.Nodup ∧ ks.length < sizeLine then some (match ks.findIdx? (· = c) with
    | some j => .dk true ks (xs.set j v)
    | none => .dk true (ks ++ [c]) (xs ++ [v])) else none
  | _, _, _ => none
/-- built-in types that values have here -/
inductive Ty | int | bool | str | list | tuple | dict | none
  deriving DecidableEq
def tyD : D → Option Ty
  | .non => some .none
  | .bl _ => some .bool
  | .int _ => some .int
  | .str _ => some .str
  | .tup _ => some .tuple
  | .lst _ _ => some .list
  | .scr _ => some .list
  | .dk _ _ _ => some .dict
  | .ins _ _ _ _ => .none
def isiT : Ty → Ty → Bool
  | .int, .int => true | .bool, .bool => true | .bool, .int => true | .str, .str => true | .list, .list => true | .tuple, .tuple => true | .dict, .dict => true | .none, .none => true
  | _, _ => false
/-! ### the language -/
mutual
inductive E
  | nm (i : Nat) | mv (i : Nat) | cst (d : D) | glob (x : Str) (d : D)
  | bin (op : BOp) (q : Bool) (a b : E) | neg (a : E)
  | cmp (op : COp) (q : Bool) (a b : E) | chn (o1 o2 : COp) (q1 q2 : Bool) (a b c : E)
  | and (a b : E) | or (a b : E) | one (a : E) | not (a : E) | ifx (c a b : E)
  | tup (es : Es) | lst (es : Es) | dct (ks : List Key) (es : Es)
  | ix (q : Bool) (a i : E) | sl (q1 q2 : Bool) (a : E) (lo hi : E1) | rev (a : E)
  | call (q : Bool) (f : Nat) (es : Es)
  | shr (a : E) | ixc (i : Nat) (b : E) | srt (a : E)
  | mxd (mn : Bool) (a : E) (d : D) | callk (f n : Nat) (ks : List Str) (arr : List (Bool × Nat)) (dfl : List D) (es es2 : Es)
  | bi (b : BI) (es : Es) | mt (m : MT) (q : Bool) (o : E) (es : Es) | mu (m : MU) (p : Pth) (es : Es)
  | isi (a : E) (cs : List Ty)
  | lc (own : List Nat) (q q2 : Bool) (t : T) (vs : List Nat) (it : I) (ifs : E1) (elt : E)
inductive E1
  | no | yes (e : E)
inductive Es
  | nil | cons (q : Bool) (e : E) (es : Es) | io (i : Nat) (es : Es)
inductive I
  | seq (e : E) | rng1 (e : E) | rng2 (a b : E) | enum (e : E) | zip (q : Bool) (a b : E)
inductive Pth
  | sl (i : Nat) | ix (p : Pth) (e : E)
inductive T
  | nm (i : Nat) | tup (ts : Ts) | sub (p : Pth) (e : E)
inductive Ts
  | nil | cons (t : T) (ts : Ts)
end
mutual
inductive S
  | asg (t : T) (vs : List Nat) (e : E) | par (is vs : List Nat) (es : Es) | aug (i : Nat) (op : BOp) (e : E)
  | ex (e : E) | ite (c : E) (a b : Ss) | for_ (t : T) (vs : List Nat) (q : Bool) (it : I) (body : Ss) | whl (c : E) (body : Ss)
  | ret (vs : List Nat) (e : E) | retn | brk | cnt | pas | nev
  | each (i j : Nat) (d : D)
inductive Ss
  | nil | cons (s : S) (ss : Ss)
end
def Pth.slot : Pth → Nat
  | .sl i => i
  | .ix p _ => p.slot
/-! ### what is read (U) and what may change (W): slots -/
mutual
def E.U : E → List Nat
  | .nm i => [i] | .mv i => [i] | .cst _ => [] | .glob _ _ => []
  | .bin _ _ a b => a.U ++ b.U | .neg a => a.U
  | .cmp _ _ a b => a.U ++ b.U | .chn _ _ _ _ a b c => a.U ++ (b.U ++ c.U)
  | .and a b => a.U ++ b.U | .or a b => a.U ++ b.U | .one a => a.U | .shr a => a.U | .ixc _ b => b.U | .srt a => a.U | .mxd _ a _ => a.U | .callk _ _ _ _ _ es es2 => es.U ++ es2.U | .not a => a.U | .ifx c a b => c.U ++ (a.U ++ b.U)
  | .tup es => es.U | .lst es => es.U | .dct _ es => es.U
  | .ix _ a i => a.U ++ i.U | .sl _ _ a lo hi => a.U ++ (lo.U ++ hi.U) | .rev a => a.U
  | .call _ _ es => es.U
  | .bi _ es => es.U | .mt _ _ o es => o.U ++ es.U | .mu _ p es => p.U ++ es.U
  | .isi a _ => a.U
  | .lc _ _ _ _ _ it ifs elt => it.U ++ (ifs.U ++ elt.U)
def E1.U : E1 → List Nat
  | .no => [] | .yes e => e.U
def Es.U : Es → List Nat
  | .nil => [] | .cons _ e es => e.U ++ es.U | .io _ es => es.U
def I.U : I → List Nat
  | .seq e => e.U | .rng1 e => e.U | .rng2 a b => a.U ++ b.U | .enum e => e.U | .zip _ a b => a.U ++ b.U
def Pth.U : Pth → List Nat
  | .sl i => [i] | .ix p e => p.U ++ e.U
end
mutual
def E.W : E → List Nat
  | .nm i => [] | .mv i => [i] | .cst _ => [] | .glob _ _ => []
  | .bin _ _ a b => a.W ++ b.W | .neg a => a.W
  | .cmp _ _ a b => a.W ++ b.W | .chn _ _ _ _ a b c => a.W ++ (b.W ++ c.W)
  | .and a b => a.W ++ b.W | .or a b => a.W ++ b.W | .one a => a.W | .shr a => a.W | .ixc _ b => b.W | .srt a => a.W | .mxd _ a _ => a.W | .callk _ _ _ _ _ es es2 => es.W ++ es2.W | .not a => a.W | .ifx c a b => c.W ++ (a.W ++ b.W)
  | .tup es => es.W | .lst es => es.W | .dct _ es => es.W
  | .ix _ a i => a.W ++ i.W | .sl _ _ a lo hi => a.W ++ (lo.W ++ hi.W) | .rev a => a.W
  | .call _ _ es => es.W
  | .bi _ es => es.W | .mt _ _ o es => o.W ++ es.W | .mu _ p es => p.W ++ (p.slot :: es.W)
  | .isi a _ => a.W
  | .lc own _ _ t _ it ifs elt => own ++ (t.W ++ (it.W ++ (ifs.W ++ elt.W)))
def E1.W : E1 → List Nat
  | .no => [] | .yes e => e.W
def Es.W : Es → List Nat
  | .nil => [] | .cons _ e es => e.W ++ es.W | .io i es => i :: es.W
def I.W : I → List Nat
  | .seq e => e.W | .rng1 e => e.W | .rng2 a b => a.W ++ b.W | .enum e => e.W | .zip _ a b => a.W ++ b.W
def T.W : T → List Nat
  | .nm i => [i] | .tup ts => ts.W | .sub p e => p.slot :: (p.W ++ e.W)
def Ts.W : Ts → List Nat
  | .nil => [] | .cons t ts => t.W ++ ts.W
def Pth.W : Pth → List Nat
  | .sl _ => [] | .ix p e => p.W ++ e.W
end
mutual
def S.W : S → List Nat
  | .each i j _ => [j, i]
  | .asg t vs e => e.W ++ (vs ++ t.W) | .par is vs es => es.W ++ (vs ++ is) | .aug i _ e => i :: e.W
  | .ex e => e.W | .ite c a b => c.W ++ (a.W ++ b.W) | .for_ t vs _ it body => it.W ++ (vs ++ (t.W ++ body.W)) | .whl c body => c.W ++ body.W
  | .ret vs e => e.W ++ vs | .retn => [] | .brk => [] | .cnt => [] | .pas => [] | .nev => []
def Ss.W : Ss → List Nat
  | .nil => [] | .cons s ss => s.W ++ ss.W
end
def Es.ios : Es → List Nat
  | .nil => [] | .cons _ _ es => es.ios | .io i es => i :: es.ios

/-! ### what it computes -/
inductive R (α : Type)
  | ok (a : α) (ρ : Env)
  | bad
def R.bind {α β : Type} : R α → (α → Env → R β) → R β
  | .ok a ρ, f => f a ρ
  | .bad, _ => .bad
def R.grd {α : Type} (b : Bool) (r : R α) : R α := if b = true then r else .bad
def R.opt {α : Type} (o : Option α) (ρ : Env) : R α := match o with
  | some a => .ok a ρ
  | none => .bad
def getS (ρ : Env) (i : Nat) : Option D := (ρ[i]?).join
def frzS (vs : List Nat) (ρ : Env) : Env := ρ.mapIdx fun i o => if i ∈ vs then o.map frz else o
def R.kc (r : Option (D × List D)) (ρ : Env) : R D := match r with
  | some (d, []) => .ok d ρ
  | _ => .bad
/-- the parameters' values: of those written, or of the defaults -/
def arrL {α : Type} (arr : List (Bool × Nat)) (dfl xs : List α) : List α := arr.filterMap fun p => if p.1 then dfl[p.2]? else xs[p.2]?
def nodS (ρ : Env) (i : Nat) : Bool := match getS ρ i with
  | some d => nod d
  | none => true
/-- an own list with room for n more -/
def ownB (n : Nat) : D → Bool
  | .lst true ys => decide (ys.length + n < sizeLine)
  | _ => false
def wipeS : Env → List Nat → Env
  | ρ, [] => ρ
  | ρ, v :: vs => (wipeS ρ vs).set v none
def keptS (o : Option D) : Option D := match o with
  | some d => if flat d then some d else none
  | none => none
def restS (ρ0 : Env) : List Nat → Env → Env
  | [], ρ => ρ
  | v :: vs, ρ => (restS ρ0 vs ρ).set v (keptS (getS ρ0 v))
def setS (ρ : Env) (i : Nat) (d : D) : R Unit := if i < ρ.length then .ok () (ρ.set i (some d)) else .bad
def setSs : Env → List Nat → List D → R Unit
  | ρ, [], [] => .ok () ρ
  | ρ, i :: is, d :: ds => (setS ρ i d).bind fun _ ρ => setSs ρ is ds
  | _, _, _ => .bad
/-- the node at the end of own nodes -/
def getP : D → List D → Option D
  | d, [] => some d
  | .lst true xs, .int i :: ks => (atI xs i).bind fun c => getP c ks
  | .dk true cs xs, k :: ks => (keyD k).bind fun c => (getK c cs xs).bind fun d => getP d ks
  | _, _ => none
def putP : D → List D → D → Option D
  | _, [], v => some v
  | .lst true xs, .int i :: ks, v => (ixN xs.length i).bind fun j => (xs[j]?).bind fun c => (putP c ks v).map fun c' => .lst true (xs.set j c')
  | .dk true cs xs, k :: ks, v => (keyD k).bind fun c => (cs.findIdx? (· = c)).bind fun j => (xs[j]?).bind fun d => (putP d ks v).map fun d' => .dk true cs (xs.set j d')
  | _, _, _ => none
def lcL (own : List Nat) (q : Bool) (body : D → Env → R (Option D)) : List D → Env → R (List D)
  | [], ρ => .ok [] ρ
  | x :: xs, ρ => (body x (wipeS ρ own)).bind fun o ρ1 => (lcL own q body xs ρ1).bind fun ds ρ2 => match o with
    | none => .ok ds ρ2
    | some d => R.grd (q || nfm d) (.ok (d :: ds) ρ2)
def rngL (lo : Int) (n : Nat) : List D := (List.range n).map fun i => .int (lo + (i : Nat))
def zipL : List D → List D → List D
  | x :: xs, y :: ys => .tup [x, y] :: zipL xs ys
  | _, _ => []
def enumL (i : Nat) : List D → List D
  | x :: xs => .tup [.int (i : Nat), x] :: enumL (i + 1) xs
  | [] => []
def listD : D → Option (List D)
  | .lst _ xs => some xs
  | .scr xs => some xs
  | _ => none
def zipD (x y : D) : Option (List D) := match listD x, listD y with
  | some xs, some ys => some (zipL xs ys)
  | _, _ => match x, y with
    | .tup xs, .tup ys => some (zipL xs ys)
    | _, _ => none
def iterD : D → Option (List D)
  | .lst _ xs => some xs
  | .scr xs => some xs
  | .tup xs => some xs
  | .str x => some (x.cps.toList.map fun c => .str ⟨#[c]⟩)
  | _ => none
def big (i : Int) : Bool := decide (-(2 ^ 62) ≤ i ∧ i < 2 ^ 62)
def rngD (i j : Int) : Option (List D) := if big i && big j then some (rngL i (j - i).toNat) else none
def putIos : Env → List Nat → List D → Option Env
  | ρ, [], [] => some ρ
  | ρ, i :: is, d :: ds => if nfm d = true ∧ i < ρ.length then putIos (ρ.set i (some d)) is ds else none
  | _, _, _ => none
section
variable (cf : Nat → List D → Option (D × List D))
mutual
def den : E → Env → R D
  | .nm i, ρ => R.opt ((getS ρ i).map frz) ρ
  | .mv i, ρ => R.opt (getS ρ i) (ρ.set i none)
  | .cst d, ρ => .ok d ρ
  | .glob _ d, ρ => .ok d ρ
  | .bin op q a b, ρ => (den a ρ).bind fun x ρ1 => (den b ρ1).bind fun y ρ2 => R.grd (q || nfm x) (R.opt (binD op (frz x) (frz y)) ρ2)
  | .neg a, ρ => (den a ρ).bind fun x ρ1 => match x with
    | .int i => .ok (.int (-i)) ρ1
    | _ => .bad
  | .cmp op q a b, ρ => (den a ρ).bind fun x ρ1 => (den b ρ1).bind fun y ρ2 => R.grd (q || nfm x) (R.opt ((cmpD op (frz x) (frz y)).map .bl) ρ2)
  | .chn o1 o2 q1 q2 a b c, ρ => (den a ρ).bind fun x ρ1 => (den b ρ1).bind fun y ρ2 => R.grd ((q1 || nfm x) && flat y) (match cmpD o1 (frz x) y with
    | some true => (den c ρ2).bind fun z ρ3 => R.opt ((cmpD o2 y (frz z)).map .bl) ρ3
    | some false => .ok (.bl false) ρ2
    | none => .bad)
  | .and a b, ρ => (den a ρ).bind fun x ρ1 => match truthD x with
    | some true => den b ρ1
    | some false => .ok x ρ1
    | none => .bad
  | .or a b, ρ => (den a ρ).bind fun x ρ1 => match truthD x with
    | some true => .ok x ρ1
    | some false => den b ρ1
    | none => .bad
  | .one a, ρ => den a ρ
  | .shr a, ρ => (den a ρ).bind fun x ρ1 => .ok (frz x) ρ1
  | .srt a, ρ => (den a ρ).bind fun x ρ1 => R.opt (srtD (frz x)) ρ1
  | .mxd mn a d, ρ => (den a ρ).bind fun x ρ1 => R.opt (mxD mn d (frz x)) ρ1
  | .callk f n ks arr dfl es es2, ρ => (denEs es ρ).bind fun xs ρ1 => (denEs es2 ρ1).bind fun zs ρ2 => R.grd (nods xs && nods zs && decide (xs.length = n ∧ zs.length = ks.length ∧ (arrL arr dfl (xs ++ zs)).length = arr.length)) (R.kc (cf f (arrL arr dfl (xs ++ zs))) ρ2)
  | .ixc i b, ρ => (R.opt (getS ρ i) ρ).bind fun _ ρ => (den b ρ).bind fun y ρ1 => R.opt ((getS ρ1 i).bind fun d => if kidD d then ixD (frz d) (frz y) else none) ρ1
  | .not a, ρ => (den a ρ).bind fun x ρ1 => R.opt ((truthD x).map fun b => .bl (!b)) ρ1
  | .ifx c a b, ρ => (den c ρ).bind fun x ρ1 => match truthD x with
    | some true => den a ρ1
    | some false => den b ρ1
    | none => .bad
  | .tup es, ρ => (denEs es ρ).bind fun xs ρ1 => R.grd (decide (xs.length ≤ sizeLine)) (.ok (.tup xs) ρ1)
  | .lst es, ρ => (denEs es ρ).bind fun xs ρ1 => R.grd (decide (xs.length ≤ sizeLine)) (.ok (.lst true xs) ρ1)
  | .dct ks es, ρ => (denEs es ρ).bind fun xs ρ1 => .ok (.dk true ks xs) ρ1
  | .ix q a i, ρ => (den a ρ).bind fun x ρ1 => (den i ρ1).bind fun y ρ2 => R.grd (q || nfm x) (R.opt (ixD (frz x) (frz y)) ρ2)
  | .sl q1 q2 a lo hi, ρ => (den a ρ).bind fun x ρ1 => (denO lo ρ1).bind fun l ρ2 => (denO hi ρ2).bind fun h ρ3 => R.grd (q1 || nfm x) (R.opt (slD (frz x) l h) ρ3)
  | .rev a, ρ => (den a ρ).bind fun x ρ1 => match frz x with
    | .lst _ xs => .ok (.lst true xs.reverse) ρ1
    | .scr xs => .ok (.lst true xs.reverse) ρ1
    | _ => .bad
  | .call q f es, ρ => (denEs es ρ).bind fun xs ρ1 => R.grd (q || nfms xs) (match cf f xs with
    | some (d, os) => R.opt ((putIos ρ1 es.ios os).map fun _ => d) ((putIos ρ1 es.ios os).getD [])
    | none => .bad)
  | .bi b es, ρ => (denEs es ρ).bind fun xs ρ1 => R.opt (biD b (frzs xs)) ρ1
  | .mt m q o es, ρ => (den o ρ).bind fun x ρ1 => (denEs es ρ1).bind fun ys ρ2 => R.grd (q || nfm x) (R.opt (mtD m (frz x) (frzs ys)) ρ2)
  | .mu m p es, ρ => (denP p ρ).bind fun ks ρ0 => (denEs es ρ0).bind fun ys ρ1 => R.grd (nfms ys || es.U.all (nodS ρ1)) (match getS ρ1 p.slot with
    | none => .bad
    | some d => match (getP d ks).bind fun c => muD m c ys with
      | none => .bad
      | some (r, c') => match putP d ks c' with
        | none => .bad
        | some d' => .ok r (ρ1.set p.slot (some d')))
  | .isi a cs, ρ => (den a ρ).bind fun x ρ1 => R.opt ((tyD x).map fun t => .bl (cs.any (isiT t))) ρ1
  | .lc own q q2 t vs it ifs elt, ρ => (denI it ρ).bind fun xs ρ1 => R.grd (vs.all (nodS ρ1) || (q && nfms xs))
      ((lcL own q2 (fun x ρ => (denT t x ρ).bind fun _ ρ => (den1 ifs ρ).bind fun b ρ => if b = true then (den elt ρ).bind fun y ρ => .ok (some y) ρ else .ok none ρ) xs ρ1).bind fun ys ρ2 =>
        R.grd (decide (ys.length ≤ sizeLine)) (.ok (.lst true ys) (restS ρ1 own ρ2)))
def den1 : E1 → Env → R Bool
  | .no, ρ => .ok true ρ
  | .yes e, ρ => (den e ρ).bind fun x ρ1 => R.opt (truthD x) ρ1
def denO : E1 → Env → R (Option Int)
  | .no, ρ => .ok none ρ
  | .yes e, ρ => (den e ρ).bind fun x ρ1 => match x with
    | .int i => .ok (some i) ρ1
    | _ => .bad
def denEs : Es → Env → R (List D)
  | .nil, ρ => .ok [] ρ
  | .cons q e es, ρ => (den e ρ).bind fun x ρ1 => (denEs es ρ1).bind fun xs ρ2 => R.grd (q || nfm x) (.ok (x :: xs) ρ2)
  | .io i es, ρ => R.grd (getS ρ i).isSome ((denEs es ρ).bind fun xs ρ1 => R.opt ((getS ρ1 i).map fun d => d :: xs) ρ1)
def denI : I → Env → R (List D)
  | .seq e, ρ => (den e ρ).bind fun x ρ1 => R.opt (iterD (frz x)) ρ1
  | .rng1 e, ρ => (den e ρ).bind fun x ρ1 => match x with
    | .int j => R.opt (if big j = true then some (rngL 0 j.toNat) else none) ρ1
    | _ => .bad
  | .rng2 a b, ρ => (den a ρ).bind fun x ρ1 => match x with
    | .int i => (den b ρ1).bind fun y ρ2 => match y with
      | .int j => R.opt (rngD i j) ρ2
      | _ => .bad
    | _ => .bad
  | .enum e, ρ => (den e ρ).bind fun x ρ1 => R.opt ((seqD (frz x)).map (enumL 0)) ρ1
  | .zip q a b, ρ => (den a ρ).bind fun x ρ1 => (den b ρ1).bind fun y ρ2 => R.grd (q || nfm x) (R.opt (zipD (frz x) (frz y)) ρ2)
def denP : Pth → Env → R (List D)
  | .sl _, ρ => .ok [] ρ
  | .ix p e, ρ => (denP p ρ).bind fun ks ρ1 => (den e ρ1).bind fun k ρ2 => R.grd (flat k) (.ok (ks ++ [k]) ρ2)
def denT : T → D → Env → R Unit
  | .nm i, d, ρ => setS ρ i d
  | .tup ts, d, ρ => match d with
    | .tup xs => denTs ts xs ρ
    | _ => .bad
  | .sub p e, v, ρ => (denP p ρ).bind fun ks ρ0 => (den e ρ0).bind fun k ρ1 => R.grd (flat k) (match getS ρ1 p.slot with
    | none => .bad
    | some d => match (getP d ks).bind fun c => setD c k v with
      | none => .bad
      | some c' => match putP d ks c' with
        | none => .bad
        | some d' => .ok () (ρ1.set p.slot (some d')))
def denTs : Ts → List D → Env → R Unit
  | .nil, [], ρ => .ok () ρ
  | .cons t ts, x :: xs, ρ => (denT t x ρ).bind fun _ ρ => denTs ts xs ρ
  | _, _, _ => .bad
end
end
inductive O
  | nx (ρ : Env) | rt (d : D) (ρ : Env) | bk (ρ : Env) | ct (ρ : Env) | bad
def R.nx {α : Type} : R α → (α → Env → O) → O
  | .ok a ρ, f => f a ρ
  | .bad, _ => .bad
def forL (f : D → Env → O) : List D → Env → O
  | [], ρ => .nx ρ
  | x :: xs, ρ => match f x ρ with
    | .nx ρ' => forL f xs ρ'
    | .ct ρ' => forL f xs ρ'
    | .bk ρ' => .nx ρ'
    | r => r
def whlL (c : Env → R Bool) (f : Env → O) : Nat → Env → O
  | 0, _ => .bad
  | m + 1, ρ => (c ρ).nx fun b ρ1 => if b = true then match f ρ1 with
      | .nx ρ' => whlL c f m ρ'
      | .ct ρ' => whlL c f m ρ'
      | .bk ρ' => .nx ρ'
      | r => r
    else .nx ρ1
section
variable (cf : Nat → List D → Option (D × List D)) (wf : Nat)
def denB (e : E) (ρ : Env) : R Bool := (den cf e ρ).bind fun x ρ1 => R.opt (truthD x) ρ1
mutual
def denS : S → Env → O
  | .asg t vs e, ρ => (den cf e ρ).nx fun x ρ1 => (denT cf t x (if nfm x then ρ1 else frzS vs ρ1)).nx fun _ ρ2 => .nx ρ2
  | .par is vs es, ρ => (denEs cf es ρ).nx fun xs ρ1 => (setSs (if nfms xs then ρ1 else frzS vs ρ1) is xs).nx fun _ ρ2 => .nx ρ2
  | .each i j d, ρ => match getS ρ j with
    | some (.lst true xs) => if i ≠ j ∧ flat d = true ∧ xs.all (ownB xs.length) = true ∧ i < ρ.length then .nx ((ρ.set j none).set i none) else .bad
    | _ => .bad
  | .aug i op e, ρ => match getS ρ i with
    | none => .bad
    | some x => if flat x = true then (den cf e ρ).nx fun y ρ1 => if flat y = true then (R.opt (augD op x y) ρ1).nx fun z ρ2 => (setS ρ2 i z).nx fun _ ρ3 => .nx ρ3 else .bad else .bad
  | .ex e, ρ => (den cf e ρ).nx fun _ ρ1 => .nx ρ1
  | .ite c a b, ρ => (denB cf c ρ).nx fun t ρ1 => if t = true then denSs a ρ1 else denSs b ρ1
  | .for_ t vs q it body, ρ => (denI cf it ρ).nx fun xs ρ1 => forL (fun x ρ => (denT cf t x ρ).nx fun _ ρ => denSs body ρ) xs (if q && nfms xs then ρ1 else frzS vs ρ1)
  | .whl c body, ρ => whlL (denB cf c) (fun ρ => denSs body ρ) wf ρ
  | .ret vs e, ρ => (den cf e ρ).nx fun x ρ1 => .rt x (if nfm x then ρ1 else frzS vs ρ1)
  | .retn, ρ => .rt .non ρ
  | .brk, ρ => .bk ρ
  | .cnt, ρ => .ct ρ
  | .pas, ρ => .nx ρ
  | .nev, _ => .bad
def denSs : Ss → Env → O
  | .nil, ρ => .nx ρ
  | .cons s ss, ρ => match denS s ρ with
    | .nx ρ' => denSs ss ρ'
    | r => r
end
end
structure Fn where
  name : Str
  ps : List Str
  N : List Str
  io : List Nat
  dfl : List D
  body : Ss
  kws : List (Nat × List Str × List (Bool × Nat))
def getIos (ρ : Env) : List Nat → Option (List D)
  | [] => some []
  | i :: is => (getS ρ i).bind fun d => (getIos ρ is).map fun ds => d :: ds
def runF (f : Fn) (o : O) : Option (D × List D) := match o with
  | .nx ρ => (getIos ρ f.io).map fun ds => (.non, ds)
  | .rt d ρ => (getIos ρ f.io).map fun ds => (d, ds)
  | _ => none
/-- a call, n levels deep at most, each while of fewer than wf turns -/
def callD (fns : List Fn) (wf : Nat) : Nat → Nat → List D → Option (D × List D)
  | 0, _, _ => none
  | n + 1, i, ds => (fns[i]?).bind fun f =>
    if ds.length ≤ f.ps.length ∧ f.ps.length ≤ ds.length + f.dfl.length then
      runF f (denSs (callD fns wf n) wf f.body ((ds ++ f.dfl.drop (f.dfl.length - (f.ps.length - ds.length))).map some ++ List.replicate (f.N.length - f.ps.length) none))
    else none
end Mn

/-! Mn C: contexts, the readings of all that holds in them, results. -/
namespace Mn
open PySem L2

structure Lx where
  N : List Str
  sc : Scope
  fn : Str → Bool
  k : Nat
/-- the contexts in which a def's code is looked at -/
structure InX (P : Program) (w : World) (K : PySem.W.Frag) (mg : Str → Option Value) (base : Heap) (L : Lx) (X : Cx) : Prop where
  prog : X.prog = P
  w : X.w = w
  K : X.K = K
  mg : X.mg = mg
  base : X.base = base
  N : X.N = L.N
  sc : X.env.scope = L.sc
  fn : X.fn = L.fn
  calm : X.calm = true
  room : Room L.k X.A
  gd : X.A.guards = some []
section
variable (P : Program) (w : World) (K : PySem.W.Frag) (mg : Str → Option Value) (base : Heap)
def We (L : Lx) (e : Expr) : TE := fun σ H Q => ∃ t : TE, (∀ X, InX P w K mg base L X → PE X e t) ∧ t σ H Q
def Wt (L : Lx) (e : Expr) : TT := fun σ H Q => ∃ t : TT, (∀ X, InX P w K mg base L X → PT X e t) ∧ t σ H Q
def Ww (L : Lx) (e : Expr) : TT := fun σ H Q => ∃ t : TT, (∀ X, InX P w K mg base L X → PW X e t) ∧ t σ H Q
def Wa (L : Lx) (es : List Expr) : TA := fun σ H Q => ∃ t : TA, (∀ X, InX P w K mg base L X → PA X es t) ∧ t σ H Q
def Wi (L : Lx) (tg e : Expr) : TI := fun σ H Q => ∃ t : TI, (∀ X, InX P w K mg base L X → PI X tg e t) ∧ t σ H Q
def Wg (L : Lx) (tg : Expr) : TG := fun v σ H Q => ∃ t : TG, (∀ X, InX P w K mg base L X → PG X tg t) ∧ t v σ H Q
def Wgs (L : Lx) (tg : List Expr) : TGs := fun v σ H Q => ∃ t : TGs, (∀ X, InX P w K mg base L X → PGs X tg t) ∧ t v σ H Q
def Wo (L : Lx) (f : Value → Value → Sem Value) : R2 := fun x y H Q => ∃ t : R2, (∀ X, InX P w K mg base L X → OpR X f t) ∧ t x y H Q
def Wx (L : Lx) : R2 := fun x y H Q => ∃ t : R2, (∀ X, InX P w K mg base L X → IxR X t) ∧ t x y H Q
def Wc (L : Lx) (f : Value) : List V → Hp → VK → Prop := fun xs H Q => ∃ t : List V → Hp → VK → Prop, (∀ X, InX P w K mg base L X → CallR X f t) ∧ t xs H Q
end
section
variable {P : Program} {w : World} {K : PySem.W.Frag} {mg : Str → Option Value} {base : Heap} {L : Lx} {X : Cx} {e : Expr}
theorem We.pe (h : InX P w K mg base L X) : PE X e (We P w K mg base L e) := ⟨fun pins s σ H Q I ⟨_, p, q⟩ => (p X h).run pins s σ H Q I q⟩
theorem Wt.pt (h : InX P w K mg base L X) : PT X e (Wt P w K mg base L e) := ⟨fun pins s σ H Q I ⟨_, p, q⟩ => (p X h).run pins s σ H Q I q⟩
theorem Ww.pw (h : InX P w K mg base L X) : PW X e (Ww P w K mg base L e) := ⟨fun wh pins s σ H Q I ⟨_, p, q⟩ => (p X h).run wh pins s σ H Q I q⟩
theorem Wa.pa {es : List Expr} (h : InX P w K mg base L X) : PA X es (Wa P w K mg base L es) := ⟨fun pos pins s σ H Q I ⟨_, p, q⟩ => (p X h).run pos pins s σ H Q I q⟩
theorem Wi.pi {tg : Expr} (h : InX P w K mg base L X) : PI X tg e (Wi P w K mg base L tg e) := ⟨fun pins s σ H Q I ⟨_, p, q⟩ => (p X h).run pins s σ H Q I q⟩
theorem Wg.pg (h : InX P w K mg base L X) : PG X e (Wg P w K mg base L e) := ⟨fun pins s σ H v u Q I r ⟨_, p, q⟩ => (p X h).run pins s σ H v u Q I r q⟩
theorem Wgs.pgs {es : List Expr} (h : InX P w K mg base L X) : PGs X es (Wgs P w K mg base L es) := ⟨fun pins s σ H v u Q I r ⟨_, p, q⟩ => (p X h).run pins s σ H v u Q I r q⟩
theorem Wo.op {f : Value → Value → Sem Value} (h : InX P w K mg base L X) : OpR X f (Wo P w K mg base L f) := fun pins s σ H x y v u Q I r1 r2 ⟨_, p, q⟩ => p X h pins s σ H x y v u Q I r1 r2 q
theorem Wx.ix (h : InX P w K mg base L X) : IxR X (Wx P w K mg base L) := fun va sl pins s σ H x y v u Q I r1 r2 ⟨_, p, q⟩ hs => p X h va sl pins s σ H x y v u Q I r1 r2 q hs
theorem Wc.call {f : Value} (h : InX P w K mg base L X) : CallR X f (Wc P w K mg base L f) := fun pins s σ H xs us Q I r ⟨_, p, q⟩ => p X h pins s σ H xs us Q I r q
end

/-! ### results -/
section
variable (K : PySem.W.Frag)
structure Res (F : AP) (U W : List Nat) (own : Own) (H : Hp) (ρ' : Env) (σ : L2.St) (d : D) (v : V) (P : List Addr) (own' : Own) (H' : Hp) : Prop where
  env : EnvR K (FP F P) ρ' own' σ H'
  rep : Rp K H' (AV F U own' P) d v P
  nd : P.Nodup
  post : Post W own H P own' H'
structure Ress (F : AP) (U W : List Nat) (own : Own) (H : Hp) (ρ' : Env) (σ : L2.St) (ds : List D) (vs : List V) (P : List Addr) (own' : Own) (H' : Hp) : Prop where
  env : EnvR K (FP F P) ρ' own' σ H'
  rep : Rps K H' (AV F U own' P) ds vs P
  nd : P.Nodup
  post : Post W own H P own' H'
end
def Ext (H H' : Hp) : Prop := ∀ b o, H b = some o → H' b = some o
section
variable {K : PySem.W.Frag} {F : AP} {U U1 U2 W W1 W2 : List Nat} {own own1 own2 : Own} {H H1 H2 H' : Hp} {ρ ρ' ρ1 ρ2 : Env} {σ : L2.St} {d d1 d2 : D} {v v1 v2 : V} {P P1 P2 P' : List Addr} {ds : List D} {vs : List V}
theorem Ext.refl (H : Hp) : Ext H H := fun _ _ h => h
theorem Ext.new {p : Addr} {o : HO} (h : H p = none) : Ext H (upd H p o) := fun a u e => by
  rw [upd_ne (ne_of_none e h)]
  exact e
theorem EnvR.ext (h : EnvR K F ρ own σ H) (x : Ext H H') (hp : ∀ b, b ∈ P → H b = none) (ht : ∀ b, b ∈ P → H' b ≠ none) : EnvR K (FP F P) ρ own σ H' where
  len := h.len
  rep := fun j d e => by
    obtain ⟨v, e1, r⟩ := h.rep j d e
    exact ⟨v, e1, r.mono (fun b o e _ => x b o e) fun a o e q => ⟨fun z => z.elim q.1 fun z => (by rw [hp a z] at e; cases e), q.2⟩⟩
  non := h.non
  nd := h.nd
  dj := h.dj
  fr := fun j b hb z => z.elim (h.fr j b hb) fun z => by
    obtain ⟨o, e, _⟩ := h.own_there hb
    rw [hp b z] at e; cases e
  fa := fun b z => z.elim (fun z => by
    cases e : H b with
    | none => exact absurd e (h.fa b z)
    | some o => rw [x b o e]; simp) (ht b)
theorem EnvR.F0 (h : EnvR K (FP F []) ρ own σ H) : EnvR K F ρ own σ H := h.less fun b z => .inl z
theorem EnvR.F0' (h : EnvR K F ρ own σ H) : EnvR K (FP F []) ρ own σ H := h.less fun b z => z.elim id fun z => nomatch z
theorem EnvR.F1 (h : EnvR K (FP F P) ρ own σ H) : EnvR K F ρ own σ H := h.less fun b z => .inl z
theorem Post.ext (p : Post W own H P1 own1 H1) (x : Ext H1 H') (hp : ∀ b, b ∈ P → H1 b = none) : Post W own H P own1 H' where
  keep := fun b o e n => x b o (p.keep b o e n)
  there := fun b e => by
    have h1 := p.there b e
    cases q : H1 b with
    | none => exact absurd q h1
    | some o => rw [x b o q]; simp
  frP := fun b hb => .inl (by
    cases q : H b with
    | none => rfl
    | some o => exact absurd (hp b hb) (p.there b (by rw [q]; simp)))
  frO := p.frO
/-- a result that is made anew of what has been evaluated -/
theorem Res.made (E : EnvR K F ρ' own1 σ H1) (p : Post W own H P1 own1 H1) (x : Ext H1 H') (hp : ∀ b, b ∈ P → H1 b = none) (nd : P.Nodup) (r : Rp K H' (AV F U own1 P) d v P) : Res K F U W own H ρ' σ d v P own1 H' :=
  ⟨E.ext x hp fun b hb => by
    obtain ⟨o, e, _⟩ := r.there b hb
    rw [e]; simp, r, nd, p.ext x hp⟩
theorem Res.F_of (r : Res K F U W own H ρ' σ d v P own1 H1) (E : EnvR K F ρ own σ H) : ∀ b, b ∈ P → ¬ F b := fun b hb z => by
  rcases r.post.frP b hb with q | ⟨j, _, q⟩
  · exact E.fa b z q
  · exact E.fr j b q z
theorem Ress.F_of (r : Ress K F U W own H ρ' σ ds vs P own1 H1) (E : EnvR K F ρ own σ H) : ∀ b, b ∈ P → ¬ F b := fun b hb z => by
  rcases r.post.frP b hb with q | ⟨j, _, q⟩
  · exact E.fa b z q
  · exact E.fr j b q z
/-- the value, shared from now on -/
theorem Res.frz (r : Res K F U W own H ρ' σ d v P own1 H1) (E : EnvR K F ρ own σ H) : Rp K H1 (AV F U own1 []) (frz d) v [] :=
  r.rep.frz fun a o e q => q.elim (fun q => ⟨q.1, fun z => (nomatch z), q.2.2⟩) fun q => ⟨r.F_of E a q, fun z => (nomatch z), fun j _ z => r.env.fr j a z (.inr q)⟩
theorem Ress.frz (r : Ress K F U W own H ρ' σ ds vs P own1 H1) (E : EnvR K F ρ own σ H) : Rps K H1 (AV F U own1 []) (frzs ds) vs [] :=
  r.rep.frz fun a o e q => q.elim (fun q => ⟨q.1, fun z => (nomatch z), q.2.2⟩) fun q => ⟨r.F_of E a q, fun z => (nomatch z), fun j _ z => r.env.fr j a z (.inr q)⟩
/-- a second value behind a first -/
theorem Res.two (E : EnvR K F ρ own σ H) (r1 : Res K F U1 W1 own H ρ1 σ d1 v1 P1 own1 H1) (r2 : Res K (FP F P1) U2 W2 own1 H1 ρ2 σ d2 v2 P2 own2 H2) (c : (∀ j, j ∈ U1 → j ∉ W2) ∨ nfm d1 = true) :
    Ress K F (U1 ++ U2) (W1 ++ W2) own H ρ2 σ [d1, d2] [v1, v2] (P1 ++ P2) own2 H2 := by
  have h12 : ∀ b, b ∈ P2 → b ∉ P1 := fun b hb z => (r2.F_of r1.env b hb) (.inr z)
  refine ⟨r2.env.less fun b z => z.elim (fun z => .inl (.inl z)) fun z => (List.mem_append.mp z).elim (fun z => .inl (.inr z)) .inr, ⟨v1, [v2], P1, P2, rfl, rfl, ?_, ?_⟩, ?_, r1.post.trans r2.post⟩
  · exact r1.rep.over r1.env r2.post c fun j hj => List.mem_append_left _ hj
  · refine Rps.one (r2.rep.mono (fun b o e _ => e) fun a o e q => ⟨fun z => q.1 (.inl z), fun z => (List.mem_append.mp z).elim (fun z => q.1 (.inr z)) q.2.1, fun j hj => q.2.2 j fun z => hj (List.mem_append_right _ z)⟩)
  · exact List.nodup_append.mpr ⟨r1.nd, r2.nd, fun a ha b hb e => h12 b hb (e ▸ ha)⟩
theorem Ress.cons (E : EnvR K F ρ own σ H) (r1 : Res K F U1 W1 own H ρ1 σ d1 v1 P1 own1 H1) (r2 : Ress K (FP F P1) U2 W2 own1 H1 ρ2 σ ds vs P2 own2 H2) (c : (∀ j, j ∈ U1 → j ∉ W2) ∨ nfm d1 = true) :
    Ress K F (U1 ++ U2) (W1 ++ W2) own H ρ2 σ (d1 :: ds) (v1 :: vs) (P1 ++ P2) own2 H2 := by
  have h12 : ∀ b, b ∈ P2 → b ∉ P1 := fun b hb z => (r2.F_of r1.env b hb) (.inr z)
  refine ⟨r2.env.less fun b z => z.elim (fun z => .inl (.inl z)) fun z => (List.mem_append.mp z).elim (fun z => .inl (.inr z)) .inr, ⟨v1, vs, P1, P2, rfl, rfl, ?_, ?_⟩, ?_, r1.post.trans r2.post⟩
  · exact r1.rep.over r1.env r2.post c fun j hj => List.mem_append_left _ hj
  · exact r2.rep.mono (fun b o e _ => e) fun a o e q => ⟨fun z => q.1 (.inl z), fun z => (List.mem_append.mp z).elim (fun z => q.1 (.inr z)) q.2.1, fun j hj => q.2.2 j fun z => hj (List.mem_append_right _ z)⟩
  · exact List.nodup_append.mpr ⟨r1.nd, r2.nd, fun a ha b hb e => h12 b hb (e ▸ ha)⟩
theorem Res.mono (r : Res K F U1 W1 own H ρ' σ d v P own1 H1) (hU : ∀ j, j ∈ U1 → j ∈ U) (hW : ∀ j, j ∈ W1 → j ∈ W) : Res K F U W own H ρ' σ d v P own1 H1 :=
  ⟨r.env, r.rep.mono (fun _ _ e _ => e) fun a _ _ q => ⟨q.1, q.2.1, fun j hj => q.2.2 j fun z => hj (hU j z)⟩, r.nd, r.post.mono hW⟩
end
end Mn

/-! Mn D: operations, by the model. -/
namespace Mn
open PySem L2
def BOp.py : BOp → Operator
  | .add => .Add | .sub => .Sub | .mul => .Mult | .fdiv => .FloorDiv | .mod => .Mod | .pow => .Pow | .shl => .LShift | .shr => .RShift | .band => .BitAnd | .bor => .BitOr
def COp.py : COp → CmpOp
  | .eq => .Eq | .ne => .NotEq | .lt => .Lt | .le => .LtE | .gt => .Gt | .ge => .GtE | .inn => .In | .nin => .NotIn | .is => .Is | .isn => .IsNot
section
variable {P : Program} {w : World} {K : PySem.W.Frag} {mg : Str → Option Value} {base : Heap} {L : Lx} {H : Hp} {A : AP}
/-- what comes of shared data: new nodes P' besides -/
def Made (K : PySem.W.Frag) (H : Hp) (A : AP) (d : D) (Q : VK) : Prop :=
  ∀ v P' H', Ext H H' → (∀ b, b ∈ P' → H b = none) → P'.Nodup → Rp K H' (fun a => A a ∧ a ∉ P') d v P' → Q v H'
theorem Made.same {d : D} {v : V} {Q : VK} (m : Made K H A d Q) (r : Rp K H A d v []) : Q v H :=
  m v [] H (Ext.refl H) (fun _ h => nomatch h) List.nodup_nil (r.mono (fun _ _ e _ => e) fun _ _ _ q => ⟨q, fun z => nomatch z⟩)
theorem Made.lst {xs : List D} {vs : List V} {Q : VK} (m : Made K H A (.lst true xs) Q) (r : Rps K H A xs vs []) : ∀ p, H p = none → Q (.ref p) (upd H p (.lst vs)) := fun p hp => by
  refine m (.ref p) [p] _ (Ext.new hp) (fun b hb => by rw [List.mem_singleton.mp hb]; exact hp) (by simp) ⟨p, vs, [], rfl, upd_same, rfl, ?_⟩
  exact r.mono (fun b o e _ => Ext.new hp b o e) fun a o e q => ⟨q, fun z => by rw [List.mem_singleton.mp z, hp] at e; cases e⟩
theorem Made.tup {xs : List D} {vs : List V} {Q : VK} (m : Made K H A (.tup xs) Q) (r : Rps K H A xs vs []) : ∀ p, H p = none → Q (.ref p) (upd H p (.tup vs)) := fun p hp => by
  refine m (.ref p) [] _ (Ext.new hp) (fun b hb => nomatch hb) (by simp) ⟨p, vs, rfl, SqT.of upd_same, ?_⟩
  exact r.mono (fun b o e _ => Ext.new hp b o e) fun a o e q => ⟨q, fun z => nomatch z⟩
theorem Rps.flatten_replicate {xs : List D} {vs : List V} (h : Rps K H A xs vs []) : ∀ n, Rps K H A (List.replicate n xs).flatten (List.replicate n vs).flatten []
  | 0 => ⟨rfl, rfl⟩
  | n + 1 => by
    rw [List.replicate_succ, List.replicate_succ, List.flatten_cons, List.flatten_cons]
    exact Rps.append (P := []) (Q := []) h (Rps.flatten_replicate h n)
theorem wo_mk {f : Value → Value → Sem Value} {r : R2} {x y : V} {Q : VK} (h : ∀ X, InX P w K mg base L X → OpR X f r) (q : r x y H Q) : Wo P w K mg base L f x y H Q := ⟨r, h, q⟩


theorem Rp.lst0 {o : Bool} {xs : List D} {v : V} (h : Rp K H A (.lst o xs) v []) : ∃ a vs, v = .ref a ∧ H a = some (.lst vs) ∧ Rps K H A xs vs [] := by
  cases o with
  | true => obtain ⟨a, vs, P', _, _, e, _⟩ := h; cases e
  | false => obtain ⟨a, vs, e, hs, _, _, r⟩ := h; exact ⟨a, vs, e, hs, r⟩
theorem Rp.dk0 {o : Bool} {ks : List Key} {xs : List D} {v : V} (h : Rp K H A (.dk o ks xs) v []) : ∃ a vs, v = .ref a ∧ H a = some (.dK (ks.zip vs)) ∧ ks.length = vs.length ∧ Rps K H A xs vs [] := by
  cases o with
  | true => obtain ⟨a, vs, P', _, _, _, e, _⟩ := h; cases e
  | false => obtain ⟨a, vs, e, hs, hl, _, _, r⟩ := h; exact ⟨a, vs, e, hs, hl, r⟩
theorem Rp.tup0 {xs : List D} {v : V} (h : Rp K H A (.tup xs) v []) : ∃ a vs, v = .ref a ∧ SqT K H a vs ∧ Rps K H A xs vs [] := h
theorem Made.int {i : Int} {Q : VK} (m : Made K H A (.int i) Q) : Q (.int i) H := m.same ⟨rfl, rfl⟩
theorem Made.bl {i : Bool} {Q : VK} (m : Made K H A (.bl i) Q) : Q (.bl i) H := m.same ⟨rfl, rfl⟩
theorem Made.str {i : Str} {Q : VK} (m : Made K H A (.str i) Q) (k : PyData.strOk i = true) : Q (.str i) H := m.same ⟨rfl, rfl, k⟩
theorem strOk_list {s : Str} : PyData.strOk s = true ↔ ∀ c, c ∈ s.cps.toList → c < 0x110000 := by
  unfold PyData.strOk
  rw [← Array.all_toList, List.all_eq_true]
  constructor
  · intro h c hc
    exact of_decide_eq_true (h c hc)
  · intro h c hc
    exact decide_eq_true (h c hc)
theorem cps_append (x y : Str) : (x ++ y).cps.toList = x.cps.toList ++ y.cps.toList := by
  show (x.cps ++ y.cps).toList = _
  rw [Array.toList_append]
theorem strOk_append {x y : Str} (h1 : PyData.strOk x = true) (h2 : PyData.strOk y = true) : PyData.strOk (x ++ y) = true :=
  strOk_list.mpr fun c hc => by
    rw [cps_append] at hc
    exact (List.mem_append.mp hc).elim (strOk_list.mp h1 c) (strOk_list.mp h2 c)
theorem strOk_mk {l : List Nat} {s : Str} (h : PyData.strOk s = true) (hl : ∀ c, c ∈ l → c ∈ s.cps.toList) : PyData.strOk ⟨l.toArray⟩ = true :=
  strOk_list.mpr fun c hc => strOk_list.mp h c (hl c (by simpa using hc))
theorem Made.non {Q : VK} (m : Made K H A .non Q) : Q .non H := m.same ⟨rfl, rfl⟩
theorem sm64_of {i j : Int} (h : (sm64 i || sm64 j) = true) : CMul i j := by
  rcases (Bool.or_eq_true _ _).mp h with h | h
  · exact .inl (of_decide_eq_true h)
  · exact .inr (of_decide_eq_true h)
theorem opt_if {α : Type} {c : Prop} [Decidable c] {a b : α} (h : (if c then some a else none) = some b) : c ∧ a = b := by
  by_cases hc : c
  · rw [if_pos hc] at h
    exact ⟨hc, Option.some.inj h⟩
  · rw [if_neg hc] at h
    cases h
theorem foldl_cat : ∀ (n : Nat) (a b : Array Nat), ((List.replicate n a).foldl (· ++ ·) b).toList = b.toList ++ (List.replicate n a.toList).flatten
  | 0, a, b => by simp
  | n + 1, a, b => by
    rw [List.replicate_succ, List.foldl_cons, foldl_cat n a (b ++ a), List.replicate_succ, List.flatten_cons]
    simp
theorem op_mul_str {X : Cx} : OpR X (binaryOp .Mult) (fun x y H Q => ∃ i k, x = .str i ∧ y = .int k ∧ 2 ≤ k ∧ k ≤ 64 ∧ i.length * k.toNat ≤ sizeLine ∧ Q (.str ⟨(List.replicate k.toNat i.cps.toList).flatten.toArray⟩) H) := by
  intro pins s σ H x y v u Q I rx ry h
  obtain ⟨i, k, rfl, rfl, h1, h2, hz, q⟩ := h
  obtain ⟨t, rfl⟩ := rx
  obtain ⟨t', rfl⟩ := ry
  have e : (⟨(List.replicate k.toNat i.cps).foldl (· ++ ·) #[]⟩ : Str) = ⟨(List.replicate k.toNat i.cps.toList).flatten.toArray⟩ := by
    have := foldl_cat k.toNat i.cps #[]
    rw [← Array.toArray_toList (xs := (List.replicate k.toNat i.cps).foldl (· ++ ·) #[]), this]
    simp
  have k1 : ¬ k < 1 := by omega
  refine PySem.P.mul_str ?_ ?_ ?_ ?_
  · rw [decide_eq_false (by omega), decide_eq_false (by omega)]; rfl
  · intro _ _ hh
    have : (2 ^ 63 - 1 : Int) / k ≥ (2 ^ 63 - 1) / 64 := by
      apply Int.le_ediv_of_mul_le (by omega)
      have : (2 ^ 63 - 1 : Int) / 64 * k ≤ (2 ^ 63 - 1) / 64 * 64 := Int.mul_le_mul_of_nonneg_left h2 (by decide)
      have e2 : (2 ^ 63 - 1 : Int) / 64 * 64 ≤ 2 ^ 63 - 1 := by decide
      omega
    have l1 : i.length ≤ sizeLine := Nat.le_trans (Nat.le_mul_of_pos_right _ (by omega)) hz
    rw [show sizeLine = 16777216 by decide] at l1
    have e3 : (2 ^ 63 - 1 : Int) / 64 = 144115188075855871 := by decide
    omega
  · intro _ _
    exact decide_eq_false (Nat.not_lt.mpr hz)
  · rw [if_neg k1]
    by_cases hc : (k == 1 || i.length == 0) = true
    · rw [if_pos hc]
      have i0 : i.length = 0 := by
        rcases (Bool.or_eq_true _ _).mp hc with hc | hc
        · have := eq_of_beq hc
          omega
        · exact eq_of_beq hc
      have ei : (⟨(List.replicate k.toNat i.cps.toList).flatten.toArray⟩ : Str) = i := by
        have : i.cps = #[] := Array.eq_empty_of_size_eq_zero i0
        cases i
        simp only at this
        subst this
        simp
      rw [ei] at q
      exact ⟨.str i, H, I, ⟨t, rfl⟩, q⟩
    · rw [if_neg hc, e]
      refine ⟨?_, ⟨.str _, H, I.tok _, ⟨_, rfl⟩, q⟩⟩
      show (List.replicate k.toNat i.cps.toList).flatten.toArray.size ≤ sizeLine
      have : (List.replicate k.toNat i.cps.toList).flatten.length = k.toNat * i.cps.size := by simp [List.length_flatten]
      rw [List.size_toArray, this, Nat.mul_comm]
      exact hz
theorem binD_ok {op : BOp} {x y d : D} {v1 v2 : V} {Q : VK} (r1 : Rp K H A x v1 []) (r2 : Rp K H A y v2 []) (h : binD op x y = some d) (m : Made K H A d Q) : Wo P w K mg base L (binaryOp op.py) v1 v2 H Q := by
  unfold binD at h
  split at h
  · cases h
    obtain ⟨rfl, _⟩ := r1
    obtain ⟨rfl, _⟩ := r2
    exact ⟨_, fun X _ => op_add, _, _, rfl, rfl, m.int⟩
  · obtain ⟨hc, e⟩ := opt_if h
    subst e
    obtain ⟨rfl, _, k1⟩ := r1
    obtain ⟨rfl, _, k2⟩ := r2
    exact ⟨_, fun X _ => op_add_str, _, _, rfl, rfl, hc, m.str (strOk_append k1 k2)⟩
  · obtain ⟨hc, e⟩ := opt_if h
    subst e
    obtain ⟨a, vs, rfl, h1, q1⟩ := r1.lst0
    obtain ⟨b, us, rfl, h2, q2⟩ := r2.lst0
    have q := Rps.append (P := []) (Q := []) q1 q2
    exact ⟨_, fun X _ => op_cat, _, _, _, _, rfl, rfl, h1, h2, by rw [q1.length, q2.length]; exact hc, m.lst q⟩
  · obtain ⟨hc, e⟩ := opt_if h
    subst e
    obtain ⟨a, vs, rfl, h1, q1⟩ := r1.tup0
    obtain ⟨b, us, rfl, h2, q2⟩ := r2.tup0
    have q := Rps.append (P := []) (Q := []) q1 q2
    refine ⟨rCatA K, fun X hX => hX.K ▸ op_catA, _, _, _, _, rfl, rfl, h1, h2, by rw [q1.length, q2.length]; exact hc, fun e => ?_, fun e1 e2 => ?_, fun _ _ => m.tup q⟩
    · subst e
      exact m.same ⟨b, us, rfl, h2, q⟩
    · subst e2
      rw [List.append_nil] at q
      exact m.same ⟨a, vs, rfl, h1, q⟩
  · cases h
    obtain ⟨rfl, _⟩ := r1
    obtain ⟨rfl, _⟩ := r2
    exact ⟨_, fun X _ => op_sub, _, _, rfl, rfl, m.int⟩
  · obtain ⟨hc, e⟩ := opt_if h
    subst e
    obtain ⟨rfl, _⟩ := r1
    obtain ⟨rfl, _⟩ := r2
    exact ⟨_, fun X _ => op_mul, _, _, rfl, rfl, sm64_of hc, m.int⟩
  · obtain ⟨hc, e⟩ := opt_if h
    subst e
    obtain ⟨a, vs, rfl, h1, q1⟩ := r1.lst0
    obtain ⟨rfl, _⟩ := r2
    have q := q1.flatten_replicate
    exact ⟨_, fun X _ => op_rep, _, _, _, rfl, rfl, h1, hc.1, hc.2.1, by rw [q1.length]; exact hc.2.2, m.lst (q _)⟩
  · obtain ⟨hc, e⟩ := opt_if h
    subst e
    obtain ⟨rfl, _, k1⟩ := r1
    obtain ⟨rfl, _⟩ := r2
    refine ⟨_, fun X _ => op_mul_str, _, _, rfl, rfl, hc.1, hc.2.1, hc.2.2, m.str (strOk_mk k1 fun c hc => ?_)⟩
    obtain ⟨l, hl, hc⟩ := List.mem_flatten.mp hc
    rw [(List.mem_replicate.mp hl).2] at hc
    exact hc
  · obtain ⟨hc, e⟩ := opt_if h
    subst e
    obtain ⟨rfl, _⟩ := r1
    obtain ⟨rfl, _⟩ := r2
    exact ⟨_, fun X _ => op_fdivW, _, _, rfl, rfl, hc, m.int⟩
  · obtain ⟨hc, e⟩ := opt_if h
    subst e
    obtain ⟨rfl, _⟩ := r1
    obtain ⟨rfl, _⟩ := r2
    exact ⟨_, fun X _ => op_mod, _, _, rfl, rfl, hc, m.int⟩
  · obtain ⟨hc, e⟩ := opt_if h
    subst e
    obtain ⟨rfl, _⟩ := r1
    obtain ⟨rfl, _⟩ := r2
    exact ⟨_, fun X _ => op_pow, _, _, rfl, rfl, hc, m.int⟩
  · obtain ⟨hc, e⟩ := opt_if h
    subst e
    obtain ⟨rfl, _⟩ := r1
    obtain ⟨rfl, _⟩ := r2
    exact ⟨_, fun X _ => op_shl, _, _, rfl, rfl, hc, m.int⟩
  · obtain ⟨hc, e⟩ := opt_if h
    subst e
    obtain ⟨rfl, _⟩ := r1
    obtain ⟨rfl, _⟩ := r2
    exact ⟨_, fun X _ => op_shr, _, _, rfl, rfl, hc, m.int⟩
  · cases h
    obtain ⟨rfl, _⟩ := r1
    obtain ⟨rfl, _⟩ := r2
    exact ⟨_, fun X _ => op_and, _, _, rfl, rfl, m.int⟩
  · cases h
    obtain ⟨rfl, _⟩ := r1
    obtain ⟨rfl, _⟩ := r2
    exact ⟨_, fun X _ => op_or, _, _, rfl, rfl, m.int⟩
  · cases h
end
end Mn

/-! Mn E: comparisons, subscripts, slices, truth, by the model. -/
namespace Mn
open PySem L2
section
variable {P : Program} {w : World} {K : PySem.W.Frag} {mg : Str → Option Value} {base : Heap} {L : Lx} {H : Hp} {A : AP}
mutual
theorem Rp.dp : ∀ {d : D} {v : V} {P : List Addr} {n : Nat}, Rp K H A d v P → plain n d = true → Dp K H v (toPy d)
  | .non, v, P, n, h, _ => by rw [h.1]; exact .non
  | .bl b, v, P, n, h, _ => by rw [h.1]; exact .bl b
  | .int i, v, P, n, h, _ => by rw [h.1]; exact .int i
  | .str s, v, P, n, h, _ => by rw [h.1]; exact .str s
  | .tup xs, v, P, n, ⟨a, vs, e, hs, hr⟩, p => by
    subst e
    exact .tup hs (Rps.dp hr ((Bool.and_eq_true _ _).mp p).2)
  | .lst true xs, v, P, n, ⟨a, vs, P', e, hs, ep, hr⟩, p => by
    subst e
    exact .lst (SqL.of hs) (Rps.dp hr ((Bool.and_eq_true _ _).mp p).2)
  | .lst false xs, v, P, n, ⟨a, vs, e, hs, hA, ep, hr⟩, p => by
    subst e
    exact .lst (SqL.of hs) (Rps.dp hr ((Bool.and_eq_true _ _).mp p).2)
  | .scr xs, v, P, n, ⟨a, vs, e, hs, ep, hr⟩, p => by
    subst e
    exact .lst hs.seq (Rps.dp hr ((Bool.and_eq_true _ _).mp p).2)
  | .dk _ _ _, v, P, n, _, p => by simp [plain] at p
  | .ins _ _ _ _, v, P, n, _, p => by simp [plain] at p
theorem Rps.dp : ∀ {ds : List D} {vs : List V} {P : List Addr} {n : Nat}, Rps K H A ds vs P → plains n ds = true → DpAll K H vs (toPys ds)
  | [], vs, P, n, h, _ => by rw [h.1]; exact .nil
  | x :: xs, vs, P, n, ⟨v, r, P1, P2, e, ep, h1, h2⟩, p => by
    subst e
    have p' := (Bool.and_eq_true _ _).mp p
    exact .cons (Rp.dp h1 p'.1) (Rps.dp h2 p'.2)
end
mutual
theorem Rp.canLay : ∀ {d : D} {v : V} {P : List Addr} {n : Nat}, Rp K H A d v P → plain n d = true → (toPy d).canLay0 = true
  | .non, v, P, n, h, _ => by simp only [toPy, PyData.canLay0]
  | .bl b, v, P, n, h, _ => by simp only [toPy, PyData.canLay0]
  | .int i, v, P, n, h, _ => by simp only [toPy, PyData.canLay0]
  | .str s, v, P, n, h, _ => by simp only [toPy, PyData.canLay0]; exact h.2.2
  | .tup xs, v, P, n, ⟨a, vs, e, hs, hr⟩, p => by simp only [toPy, PyData.canLay0]; exact Rps.canLay hr ((Bool.and_eq_true _ _).mp p).2
  | .lst true xs, v, P, n, ⟨a, vs, P', e, hs, ep, hr⟩, p => by simp only [toPy, PyData.canLay0]; exact Rps.canLay hr ((Bool.and_eq_true _ _).mp p).2
  | .lst false xs, v, P, n, ⟨a, vs, e, hs, hA, ep, hr⟩, p => by simp only [toPy, PyData.canLay0]; exact Rps.canLay hr ((Bool.and_eq_true _ _).mp p).2
  | .scr xs, v, P, n, ⟨a, vs, e, hs, ep, hr⟩, p => by simp only [toPy, PyData.canLay0]; exact Rps.canLay hr ((Bool.and_eq_true _ _).mp p).2
  | .dk _ _ _, v, P, n, _, p => by simp [plain] at p
  | .ins _ _ _ _, v, P, n, _, p => by simp [plain] at p
theorem Rps.canLay : ∀ {ds : List D} {vs : List V} {P : List Addr} {n : Nat}, Rps K H A ds vs P → plains n ds = true → PyData.canLayAll0 (toPys ds) = true
  | [], vs, P, n, h, _ => by simp only [toPys, PyData.canLayAll0]
  | x :: xs, vs, P, n, ⟨v, r, P1, P2, e, ep, h1, h2⟩, p => by
    have p' := (Bool.and_eq_true _ _).mp p
    simp only [toPys, PyData.canLayAll0, Rp.canLay h1 p'.1, Rps.canLay h2 p'.2, Bool.and_self]
end
mutual
theorem plain_depth : ∀ {d : D} {n : Nat}, plain n d = true → (toPy d).depth ≤ n
  | .non, n, _ => by simp only [toPy, PyData.depth]; omega
  | .bl b, n, _ => by simp only [toPy, PyData.depth]; omega
  | .int i, n, _ => by simp only [toPy, PyData.depth]; omega
  | .str s, n, _ => by simp only [toPy, PyData.depth]; omega
  | .tup xs, n, p => by
    have p' := (Bool.and_eq_true _ _).mp p
    have h1 : n ≠ 0 := by simpa using p'.1
    have h2 := plains_depth p'.2
    simp only [toPy, PyData.depth]
    omega
  | .lst o xs, n, p => by
    have p' := (Bool.and_eq_true _ _).mp p
    have h1 : n ≠ 0 := by simpa using p'.1
    have h2 := plains_depth p'.2
    simp only [toPy, PyData.depth]
    omega
  | .scr xs, n, p => by
    have p' := (Bool.and_eq_true _ _).mp p
    have h1 : n ≠ 0 := by simpa using p'.1
    have h2 := plains_depth p'.2
    simp only [toPy, PyData.depth]
    omega
  | .dk _ _ _, n, p => by simp [plain] at p
  | .ins _ _ _ _, n, p => by simp [plain] at p
theorem plains_depth : ∀ {ds : List D} {n : Nat}, plains n ds = true → PyData.depthAll (toPys ds) ≤ n
  | [], n, _ => by simp only [toPys, PyData.depthAll]; omega
  | x :: xs, n, p => by
    have p' := (Bool.and_eq_true _ _).mp p
    have h1 := plain_depth p'.1
    have h2 := plains_depth p'.2
    simp only [toPys, PyData.depthAll]
    omega
end
mutual
theorem eqv_toPy : ∀ {x y : D} {n m : Nat}, plain n x = true → plain m y = true → PyData.eqv (toPy x) (toPy y) = eqD x y
  | x, .dk _ _ _, n, m, _, p => by simp [plain] at p
  | x, .ins _ _ _ _, n, m, _, p => by simp [plain] at p
  | .dk _ _ _, y, n, m, p, _ => by simp [plain] at p
  | .ins _ _ _ _, y, n, m, p, _ => by simp [plain] at p
  | .tup xs, .tup ys, n, m, p, q => by
    simp only [toPy, PyData.eqv, eqD]
    exact eqv_toPys ((Bool.and_eq_true _ _).mp p).2 ((Bool.and_eq_true _ _).mp q).2
  | .lst _ xs, .lst _ ys, n, m, p, q => by
    simp only [toPy, PyData.eqv, eqD]
    exact eqv_toPys ((Bool.and_eq_true _ _).mp p).2 ((Bool.and_eq_true _ _).mp q).2
  | .lst _ xs, .scr ys, n, m, p, q => by
    simp only [toPy, PyData.eqv, eqD]
    exact eqv_toPys ((Bool.and_eq_true _ _).mp p).2 ((Bool.and_eq_true _ _).mp q).2
  | .scr xs, .lst _ ys, n, m, p, q => by
    simp only [toPy, PyData.eqv, eqD]
    exact eqv_toPys ((Bool.and_eq_true _ _).mp p).2 ((Bool.and_eq_true _ _).mp q).2
  | .scr xs, .scr ys, n, m, p, q => by
    simp only [toPy, PyData.eqv, eqD]
    exact eqv_toPys ((Bool.and_eq_true _ _).mp p).2 ((Bool.and_eq_true _ _).mp q).2
  | .non, .non, _, _, _, _ => by simp only [toPy, PyData.eqv, eqD]
  | .non, .bl _, _, _, _, _ => by simp only [toPy, PyData.eqv, eqD]
  | .non, .int _, _, _, _, _ => by simp only [toPy, PyData.eqv, eqD]
  | .non, .str _, _, _, _, _ => by simp only [toPy, PyData.eqv, eqD]
  | .non, .tup _, _, _, _, _ => by simp only [toPy, PyData.eqv, eqD]
  | .non, .lst _ _, _, _, _, _ => by simp only [toPy, PyData.eqv, eqD]
  | .non, .scr _, _, _, _, _ => by simp only [toPy, PyData.eqv, eqD]
  | .bl _, .non, _, _, _, _ => by simp only [toPy, PyData.eqv, eqD]
  | .bl _, .bl _, _, _, _, _ => by simp only [toPy, PyData.eqv, eqD]
  | .bl _, .int _, _, _, _, _ => by simp only [toPy, PyData.eqv, eqD]
  | .bl _, .str _, _, _, _, _ => by simp only [toPy, PyData.eqv, eqD]
  | .bl _, .tup _, _, _, _, _ => by simp only [toPy, PyData.eqv, eqD]
  | .bl _, .lst _ _, _, _, _, _ => by simp only [toPy, PyData.eqv, eqD]
  | .bl _, .scr _, _, _, _, _ => by simp only [toPy, PyData.eqv, eqD]
  | .int _, .non, _, _, _, _ => by simp only [toPy, PyData.eqv, eqD]
  | .int _, .bl _, _, _, _, _ => by simp only [toPy, PyData.eqv, eqD]
  | .int _, .int _, _, _, _, _ => by simp only [toPy, PyData.eqv, eqD]
  | .int _, .str _, _, _, _, _ => by simp only [toPy, PyData.eqv, eqD]
  | .int _, .tup _, _, _, _, _ => by simp only [toPy, PyData.eqv, eqD]
  | .int _, .lst _ _, _, _, _, _ => by simp only [toPy, PyData.eqv, eqD]
  | .int _, .scr _, _, _, _, _ => by simp only [toPy, PyData.eqv, eqD]
  | .str _, .non, _, _, _, _ => by simp only [toPy, PyData.eqv, eqD]
  | .str _, .bl _, _, _, _, _ => by simp only [toPy, PyData.eqv, eqD]
  | .str _, .int _, _, _, _, _ => by simp only [toPy, PyData.eqv, eqD]
  | .str _, .str _, _, _, _, _ => by simp only [toPy, PyData.eqv, eqD]
  | .str _, .tup _, _, _, _, _ => by simp only [toPy, PyData.eqv, eqD]
  | .str _, .lst _ _, _, _, _, _ => by simp only [toPy, PyData.eqv, eqD]
  | .str _, .scr _, _, _, _, _ => by simp only [toPy, PyData.eqv, eqD]
  | .tup _, .non, _, _, _, _ => by simp only [toPy, PyData.eqv, eqD]
  | .tup _, .bl _, _, _, _, _ => by simp only [toPy, PyData.eqv, eqD]
  | .tup _, .int _, _, _, _, _ => by simp only [toPy, PyData.eqv, eqD]
  | .tup _, .str _, _, _, _, _ => by simp only [toPy, PyData.eqv, eqD]
  | .tup _, .lst _ _, _, _, _, _ => by simp only [toPy, PyData.eqv, eqD]
  | .tup _, .scr _, _, _, _, _ => by simp only [toPy, PyData.eqv, eqD]
  | .lst _ _, .non, _, _, _, _ => by simp only [toPy, PyData.eqv, eqD]
  | .lst _ _, .bl _, _, _, _, _ => by simp only [toPy, PyData.eqv, eqD]
  | .lst _ _, .int _, _, _, _, _ => by simp only [toPy, PyData.eqv, eqD]
  | .lst _ _, .str _, _, _, _, _ => by simp only [toPy, PyData.eqv, eqD]
  | .lst _ _, .tup _, _, _, _, _ => by simp only [toPy, PyData.eqv, eqD]
  | .scr _, .non, _, _, _, _ => by simp only [toPy, PyData.eqv, eqD]
  | .scr _, .bl _, _, _, _, _ => by simp only [toPy, PyData.eqv, eqD]
  | .scr _, .int _, _, _, _, _ => by simp only [toPy, PyData.eqv, eqD]
  | .scr _, .str _, _, _, _, _ => by simp only [toPy, PyData.eqv, eqD]
  | .scr _, .tup _, _, _, _, _ => by simp only [toPy, PyData.eqv, eqD]
theorem eqv_toPys : ∀ {xs ys : List D} {n m : Nat}, plains n xs = true → plains m ys = true → PyData.eqvAll (toPys xs) (toPys ys) = eqDs xs ys
  | [], [], _, _, _, _ => by simp only [toPys, PyData.eqvAll, eqDs]
  | [], _ :: _, _, _, _, _ => by simp only [toPys, PyData.eqvAll, eqDs]
  | _ :: _, [], _, _, _, _ => by simp only [toPys, PyData.eqvAll, eqDs]
  | x :: xs, y :: ys, n, m, p, q => by
    have p' := (Bool.and_eq_true _ _).mp p
    have q' := (Bool.and_eq_true _ _).mp q
    simp only [toPys, PyData.eqvAll, eqDs, eqv_toPy p'.1 q'.1, eqv_toPys p'.2 q'.2]
end
theorem Rp.shaped {d : D} {v : V} {P : List Addr} (h : Rp K H A d v P) (p : plain 60 d = true) : SeqAt.shaped (toPy d) = true := by
  unfold SeqAt.shaped
  rw [h.canLay p]
  exact decide_eq_true (Nat.le_trans (plain_depth p) (by decide))
theorem Rp.flat {d : D} {v : V} {P : List Addr} (h : Rp K H A d v P) (f : flat d = true) : flatV v = true := by
  cases d with
  | non => obtain ⟨rfl, _⟩ := h; rfl
  | bl b => obtain ⟨rfl, _⟩ := h; rfl
  | int b => obtain ⟨rfl, _⟩ := h; rfl
  | str b => obtain ⟨rfl, _⟩ := h; rfl
  | _ => cases f
theorem Rps.flat : ∀ {ds : List D} {vs : List V} {P : List Addr}, Rps K H A ds vs P → ds.all Mn.flat = true → vs.all flatV = true
  | [], vs, P, h, _ => by rw [h.1]; rfl
  | x :: xs, vs, P, ⟨v, r, P1, P2, e, ep, h1, h2⟩, f => by
    rw [List.all_cons, Bool.and_eq_true] at f
    rw [e, List.all_cons, h1.flat f.1, Rps.flat h2 f.2]
    rfl
theorem flat_eq {x y : D} {v u : V} {P Q : List Addr} (h1 : Rp K H A x v P) (h2 : Rp K H A y u Q) (f1 : Mn.flat x = true) (f2 : Mn.flat y = true) : eqV v u = eqD x y := by
  cases x <;> first | (cases f1; done) | (cases y <;> first | (cases f2; done) | (rw [h1.1, h2.1]; simp [eqV, eqD] <;> rfl))
end
end Mn

/-! Mn F: comparisons, subscripts, slices, truth (2). -/
namespace Mn
open PySem L2
section
variable {P : Program} {w : World} {K : PySem.W.Frag} {mg : Str → Option Value} {base : Heap} {L : Lx} {H : Hp} {A : AP}
def Wsl (P : Program) (w : World) (K : PySem.W.Frag) (mg : Str → Option Value) (base : Heap) (L : Lx) : V → Option Int → Option Int → Hp → VK → Prop := fun x l h H Q => ∃ t : V → Option Int → Option Int → Hp → VK → Prop, (∀ X, InX P w K mg base L X → SlR X t) ∧ t x l h H Q
theorem Wsl.sl {X : Cx} (h : InX P w K mg base L X) : SlR X (Wsl P w K mg base L) := fun pins s σ H x v vl vu lo hi sl Q I rx hs pl pu ⟨_, p, q⟩ => p X h pins s σ H x v vl vu lo hi sl Q I rx hs pl pu q
theorem kV_keyD {d : D} {k : Key} {v : V} {P : List Addr} (h : Rp K H A d v P) (e : keyD d = some k) : v = kV k := by
  cases d <;> simp [keyD] at e
  · subst e; exact h.1
  · subst e; exact h.1
theorem valV_zip {k : Key} : ∀ {ks : List Key} {xs : List D} {vs : List V}, Rps K H A xs vs [] → ks.length = vs.length → (getK k ks xs = none ∧ valV (ks.zip vs) k = none) ∨ ∃ d v, getK k ks xs = some d ∧ valV (ks.zip vs) k = some v ∧ Rp K H A d v []
  | [], xs, vs, h, e => .inl ⟨by cases xs <;> rfl, by rw [List.zip_nil_left]; exact valV_nil⟩
  | c :: ks, xs, [], h, e => by cases e
  | c :: ks, [], v :: vs, h, e => by cases h.1
  | c :: ks, x :: xs, v :: vs, h, e => by
    obtain ⟨v', r, P1, P2, e1, ep, h1, h2⟩ := h
    cases e1
    have e0 := List.append_eq_nil_iff.mp ep.symm
    rw [e0.1] at h1
    rw [e0.2] at h2
    by_cases hc : c = k
    · refine .inr ⟨x, v, ?_, valV_pos hc, h1⟩
      unfold getK
      rw [if_pos hc]
    · have := valV_zip (k := k) h2 (by simpa using e)
      rw [List.zip_cons_cons, valV_neg (p := (c, v)) hc]
      unfold getK
      rw [if_neg hc]
      exact this
theorem Rp.rdScr {xs : List D} {v : V} {P : List Addr} (h : Rp K H A (.scr xs) v P) : ∃ a vs, v = .ref a ∧ SqL K H a vs ∧ Rps K H A xs vs [] := by
  obtain ⟨a, vs, e, hs, _, r⟩ := h
  exact ⟨a, vs, e, hs.seq, r⟩
theorem any_in {x : D} {v : V} {P : List Addr} (h1 : Rp K H A x v P) (f1 : flat x = true) : ∀ {xs : List D} {vs : List V}, Rps K H A xs vs [] → xs.all flat = true → inV v vs = xs.any fun y => eqD y x
  | [], vs, h, _ => by rw [h.1]; rfl
  | y :: ys, vs, ⟨u, r, P1, P2, e, ep, g1, g2⟩, f => by
    rw [List.all_cons, Bool.and_eq_true] at f
    have e0 := List.append_eq_nil_iff.mp ep.symm
    rw [e0.2] at g2
    have ih := any_in h1 f1 g2 f.2
    subst e
    unfold inV at ih ⊢
    rw [List.any_cons, List.any_cons, ih, flat_eq g1 h1 f.1 f1]
def rDIn : R2 := fun x y H Q => ∃ a kvs k, y = .ref a ∧ H a = some (.dK kvs) ∧ x = kV k ∧ Q (.bl (valV kvs k).isSome) H
def rDNin : R2 := fun x y H Q => ∃ a kvs k, y = .ref a ∧ H a = some (.dK kvs) ∧ x = kV k ∧ Q (.bl (!(valV kvs k).isSome)) H
theorem op_din {X : Cx} (hu : X.A.units + 1 < cLine) : OpR X (compareOp .In) rDIn := by
  intro pins s σ H x y v u Q I rx ry h
  obtain ⟨a, kvs, k, rfl, ha, rfl, q⟩ := h
  cases ry
  exact d_in hu I (DGet.k ha) rx fun s' I' => ⟨.bl _, H, I', rfl, q⟩
theorem op_dnin {X : Cx} (hu : X.A.units + 1 < cLine) : OpR X (compareOp .NotIn) rDNin := by
  intro pins s σ H x y v u Q I rx ry h
  obtain ⟨a, kvs, k, rfl, ha, rfl, q⟩ := h
  cases ry
  exact d_notIn hu I (DGet.k ha) rx fun s' I' => ⟨.bl _, H, I', rfl, q⟩
theorem InX.u1 {X : Cx} (h : InX P w K mg base L X) : X.A.units + 1 < cLine := hu_of h.room
theorem InX.u64 {X : Cx} (h : InX P w K mg base L X) : X.A.units + 64 < cLine := h.room.units
theorem cmpD_ok {op : COp} {x y : D} {b : Bool} {v1 v2 : V} {Q : VK} (r1 : Rp K H A x v1 []) (r2 : Rp K H A y v2 []) (h : cmpD op x y = some b) (q : Q (.bl b) H) : Wo P w K mg base L (compareOp op.py) v1 v2 H Q := by
  unfold cmpD at h
  split at h
  · obtain ⟨hc, e⟩ := opt_if h
    subst e
    have hc' := (Bool.and_eq_true _ _).mp hc
    exact ⟨rEqD K, fun X hX => hX.K ▸ op_eqD hX.u64, _, _, r1.dp hc'.1, r2.dp hc'.2, r1.shaped hc'.1, r2.shaped hc'.2, by rw [eqv_toPy hc'.1 hc'.2]; exact q⟩
  · obtain ⟨hc, e⟩ := opt_if h
    subst e
    have hc' := (Bool.and_eq_true _ _).mp hc
    exact ⟨rNeD K, fun X hX => hX.K ▸ op_neD hX.u64, _, _, r1.dp hc'.1, r2.dp hc'.2, r1.shaped hc'.1, r2.shaped hc'.2, by rw [eqv_toPy hc'.1 hc'.2]; exact q⟩
  · cases h; obtain ⟨rfl, _⟩ := r1; obtain ⟨rfl, _⟩ := r2; exact ⟨_, fun X _ => op_lt, _, _, rfl, rfl, q⟩
  · cases h; obtain ⟨rfl, _⟩ := r1; obtain ⟨rfl, _⟩ := r2; exact ⟨_, fun X _ => op_le, _, _, rfl, rfl, q⟩
  · cases h; obtain ⟨rfl, _⟩ := r1; obtain ⟨rfl, _⟩ := r2; exact ⟨_, fun X _ => op_gt, _, _, rfl, rfl, q⟩
  · cases h; obtain ⟨rfl, _⟩ := r1; obtain ⟨rfl, _⟩ := r2; exact ⟨_, fun X _ => op_ge, _, _, rfl, rfl, q⟩
  · cases h; obtain ⟨rfl, _⟩ := r1; obtain ⟨rfl, _⟩ := r2; exact ⟨_, fun X _ => op_lt_str, _, _, rfl, rfl, q⟩
  · obtain ⟨hc, e⟩ := opt_if h
    subst e
    have hc' := (Bool.and_eq_true _ _).mp hc
    obtain ⟨a, vs, rfl, h2, q2⟩ := r2.lst0
    exact ⟨rIn K false, fun X hX => hX.K ▸ op_in_seq, a, vs, rfl, .inl (SqL.of h2), r1.flat hc'.1, q2.flat hc'.2, by rw [any_in r1 hc'.1 q2 hc'.2]; exact q⟩
  · obtain ⟨hc, e⟩ := opt_if h
    subst e
    have hc' := (Bool.and_eq_true _ _).mp hc
    obtain ⟨a, vs, rfl, h2, q2⟩ := r2.tup0
    exact ⟨rIn K false, fun X hX => hX.K ▸ op_in_seq, a, vs, rfl, .inr h2, r1.flat hc'.1, q2.flat hc'.2, by rw [any_in r1 hc'.1 q2 hc'.2]; exact q⟩
  · obtain ⟨hc, e⟩ := opt_if h
    subst e
    have hc' := (Bool.and_eq_true _ _).mp hc
    obtain ⟨a, vs, rfl, h2, q2⟩ := r2.lst0
    exact ⟨rIn K true, fun X hX => hX.K ▸ op_notIn_seq, a, vs, rfl, .inl (SqL.of h2), r1.flat hc'.1, q2.flat hc'.2, by rw [any_in r1 hc'.1 q2 hc'.2]; exact q⟩
  · obtain ⟨hc, e⟩ := opt_if h
    subst e
    have hc' := (Bool.and_eq_true _ _).mp hc
    obtain ⟨a, vs, rfl, h2, q2⟩ := r2.tup0
    exact ⟨rIn K true, fun X hX => hX.K ▸ op_notIn_seq, a, vs, rfl, .inr h2, r1.flat hc'.1, q2.flat hc'.2, by rw [any_in r1 hc'.1 q2 hc'.2]; exact q⟩
  · cases h; obtain ⟨rfl, _⟩ := r1; obtain ⟨rfl, _⟩ := r2; exact ⟨_, fun X _ => op_in_str, _, _, rfl, rfl, q⟩
  · cases h; obtain ⟨rfl, _⟩ := r1; obtain ⟨rfl, _⟩ := r2; exact ⟨_, fun X _ => op_notin_str, _, _, rfl, rfl, q⟩
  · cases e : keyD x with
    | none => rw [e] at h; cases h
    | some k =>
      rw [e] at h
      cases h
      obtain ⟨a, vs, rfl, h2, hl, q2⟩ := r2.dk0
      refine ⟨_, fun X hX => op_din hX.u1, a, _, k, rfl, h2, kV_keyD r1 e, ?_⟩
      dsimp only at q
      rcases valV_zip (k := k) q2 hl with ⟨e1, e2⟩ | ⟨d, v, e1, e2, _⟩ <;> rw [e2] <;> rw [e1] at q <;> exact q
  · cases e : keyD x with
    | none => rw [e] at h; cases h
    | some k =>
      rw [e] at h
      cases h
      obtain ⟨a, vs, rfl, h2, hl, q2⟩ := r2.dk0
      refine ⟨_, fun X hX => op_dnin hX.u1, a, _, k, rfl, h2, kV_keyD r1 e, ?_⟩
      dsimp only at q
      rcases valV_zip (k := k) q2 hl with ⟨e1, e2⟩ | ⟨d, v, e1, e2, _⟩ <;> rw [e2] <;> rw [e1] at q <;> exact q
  · cases h
    obtain ⟨rfl, _⟩ := r1
    obtain ⟨rfl, _⟩ := r2
    exact ⟨_, fun X _ => op_isN, rfl, q⟩
  · rename_i hx
    cases h
    obtain ⟨rfl, _⟩ := r2
    refine ⟨_, fun X _ => op_isN, rfl, ?_⟩
    have : v1 ≠ .non := by
      rintro rfl
      cases x with
      | non => exact hx rfl
      | bl b => cases r1.1
      | int b => cases r1.1
      | str b => cases r1.1
      | tup xs => obtain ⟨_, _, z, _⟩ := r1; cases z
      | lst o xs => obtain ⟨_, _, z, _⟩ := Rp.lst0 r1; cases z
      | scr xs => obtain ⟨_, _, z, _⟩ := r1; cases z
      | dk o ks xs => obtain ⟨_, _, z, _⟩ := Rp.dk0 r1; cases z
      | ins o c ks xs =>
        cases o with
        | true => obtain ⟨_, _, _, _, z, _⟩ := r1; cases z
        | false => obtain ⟨_, _, _, z, _⟩ := r1; cases z
    rw [decide_eq_false this]
    exact q
  · cases h
    obtain ⟨rfl, _⟩ := r1
    obtain ⟨rfl, _⟩ := r2
    exact ⟨_, fun X _ => op_notN, rfl, q⟩
  · rename_i hx
    cases h
    obtain ⟨rfl, _⟩ := r2
    refine ⟨_, fun X _ => op_notN, rfl, ?_⟩
    have : v1 ≠ .non := by
      rintro rfl
      cases x with
      | non => exact hx rfl
      | bl b => cases r1.1
      | int b => cases r1.1
      | str b => cases r1.1
      | tup xs => obtain ⟨_, _, z, _⟩ := r1; cases z
      | lst o xs => obtain ⟨_, _, z, _⟩ := Rp.lst0 r1; cases z
      | scr xs => obtain ⟨_, _, z, _⟩ := r1; cases z
      | dk o ks xs => obtain ⟨_, _, z, _⟩ := Rp.dk0 r1; cases z
      | ins o c ks xs =>
        cases o with
        | true => obtain ⟨_, _, _, _, z, _⟩ := r1; cases z
        | false => obtain ⟨_, _, _, z, _⟩ := r1; cases z
    rw [decide_eq_false this]
    exact q
  · cases h
theorem Rps.atI {xs : List D} {vs : List V} {i : Int} {d : D} (h : Rps K H A xs vs []) (e : atI xs i = some d) : ∃ v, atI vs i = some v ∧ Rp K H A d v [] := by
  unfold L2.atI at e ⊢
  rw [h.length]
  cases q : ixN xs.length i with
  | none => rw [q] at e; cases e
  | some j =>
    rw [q] at e
    exact h.get0 e
theorem Rps.drop0 : ∀ {xs : List D} {vs : List V} (n : Nat), Rps K H A xs vs [] → Rps K H A (xs.drop n) (vs.drop n) []
  | xs, vs, 0, h => h
  | [], vs, n + 1, h => by rw [h.1]; exact ⟨rfl, rfl⟩
  | x :: xs, vs, n + 1, ⟨v, r, P1, P2, e, ep, h1, h2⟩ => by
    have e0 := List.append_eq_nil_iff.mp ep.symm
    rw [e0.2] at h2
    subst e
    exact Rps.drop0 n h2
theorem Rps.take0 : ∀ {xs : List D} {vs : List V} (n : Nat), Rps K H A xs vs [] → Rps K H A (xs.take n) (vs.take n) []
  | xs, vs, 0, h => ⟨rfl, rfl⟩
  | [], vs, n + 1, h => by rw [h.1]; exact ⟨rfl, rfl⟩
  | x :: xs, vs, n + 1, ⟨v, r, P1, P2, e, ep, h1, h2⟩ => by
    have e0 := List.append_eq_nil_iff.mp ep.symm
    rw [e0.2] at h2
    rw [e0.1] at h1
    subst e
    exact ⟨v, r.take n, [], [], rfl, rfl, h1, Rps.take0 n h2⟩
theorem Rps.cut {xs : List D} {vs : List V} {lo hi : Option Int} (h : Rps K H A xs vs []) : Rps K H A (cutL xs lo hi) (cutV vs lo hi) [] := by
  unfold cutL cutV
  rw [h.length]
  exact (h.drop0 _).take0 _
theorem ixD_ok {x y d : D} {v1 v2 : V} {Q : VK} (r1 : Rp K H A x v1 []) (r2 : Rp K H A y v2 []) (nd : ∀ o ks xs, x ≠ .dk o ks xs) (h : ixD x y = some d) (q : ∀ v, Rp K H A d v [] → Q v H) : Wx P w K mg base L v1 v2 H Q := by
  unfold ixD at h
  split at h
  · obtain ⟨a, vs, rfl, h1, q1⟩ := r1.lst0
    obtain ⟨rfl, _⟩ := r2
    obtain ⟨v, e, r⟩ := q1.atI h
    exact ⟨rIxL K, fun X hX => hX.K ▸ ix_list, a, vs, _, v, rfl, rfl, SqL.of h1, e, q v r⟩
  · obtain ⟨a, vs, rfl, h1, q1⟩ := r1.tup0
    obtain ⟨rfl, _⟩ := r2
    obtain ⟨v, e, r⟩ := q1.atI h
    exact ⟨rIxT K, fun X hX => hX.K ▸ ix_tup, a, vs, _, v, rfl, rfl, h1, e, q v r⟩
  · obtain ⟨a, vs, rfl, h1, q1⟩ := r1.rdScr
    obtain ⟨rfl, _⟩ := r2
    obtain ⟨v, e, r⟩ := q1.atI h
    exact ⟨rIxL K, fun X hX => hX.K ▸ ix_list, a, vs, _, v, rfl, rfl, h1, e, q v r⟩
  · rename_i z i
    obtain ⟨rfl, _, k⟩ := r1
    obtain ⟨rfl, _⟩ := r2
    by_cases hz : z.length ≤ sizeLine
    · rw [if_pos hz] at h
      cases e : L2.atI z.cps.toList i with
      | none => rw [e] at h; cases h
      | some c =>
        rw [e] at h
        cases h
        refine ⟨_, fun X _ => ix_str, z, i, c, rfl, rfl, hz, e, q _ ⟨rfl, rfl, ?_⟩⟩
        refine strOk_mk (l := [c]) k fun b hb => ?_
        rw [List.mem_singleton.mp hb]
        unfold L2.atI at e
        obtain ⟨j, _, e2⟩ := Option.bind_eq_some_iff.mp e
        exact List.mem_of_getElem? e2
    · rw [if_neg hz] at h
      cases h
  · exact absurd rfl (nd _ _ _)
  · cases h
theorem slD_ok {x d : D} {lo hi : Option Int} {v1 : V} {Q : VK} (r1 : Rp K H A x v1 []) (h : slD x lo hi = some d) (m : Made K H A d Q) : Wsl P w K mg base L v1 lo hi H Q := by
  unfold slD at h
  split at h
  · cases h
    obtain ⟨a, vs, rfl, h1, q1⟩ := r1.lst0
    exact ⟨rSlL K, fun X hX => hX.K ▸ sl_list, a, vs, rfl, SqL.of h1, m.lst q1.cut⟩
  · cases h
    obtain ⟨a, vs, rfl, h1, q1⟩ := r1.rdScr
    exact ⟨rSlL K, fun X hX => hX.K ▸ sl_list, a, vs, rfl, h1, m.lst q1.cut⟩
  · rename_i xs
    cases h
    obtain ⟨a, vs, rfl, h1, q1⟩ := r1.tup0
    refine ⟨rSlA K, fun X hX => hX.K ▸ sl_tupA, a, vs, rfl, h1, fun ⟨e1, e2⟩ => ?_, fun _ => m.tup q1.cut⟩
    refine m.same ⟨a, vs, rfl, h1, ?_⟩
    have : cutL xs lo hi = xs := by
      unfold cutL
      rw [q1.length] at e1 e2
      rw [e1, e2, List.drop_zero, Nat.sub_zero, List.take_length]
    rw [this]
    exact q1
  · rename_i z
    obtain ⟨hz, e⟩ := opt_if h
    subst e
    obtain ⟨rfl, _, k⟩ := r1
    refine ⟨_, fun X _ => sl_str, z, rfl, hz, ?_⟩
    have e1 : cutS z lo hi = ⟨(cutL z.cps.toList lo hi).toArray⟩ := by
      unfold cutS cutL
      rw [Array.length_toList]
      rfl
    rw [e1]
    exact m.str (strOk_mk k fun c hc => List.mem_of_mem_drop (List.mem_of_mem_take hc))
  · cases h
theorem Rp.tru {x : D} {b : Bool} {v : V} {P : List Addr} (r1 : Rp K H A x v P) (h : truthD x = some b) : TruV K v H b := by
  cases x with
  | non => obtain ⟨rfl, _⟩ := r1; cases h; rfl
  | bl c => obtain ⟨rfl, _⟩ := r1; cases h; rfl
  | int i => obtain ⟨rfl, _⟩ := r1; cases h; rfl
  | str s =>
    obtain ⟨rfl, _⟩ := r1
    obtain ⟨hz, e⟩ := opt_if (show (if s.length ≤ sizeLine then some ((s.length : Int) != 0) else none) = some b from h)
    exact ⟨hz, e.symm⟩
  | tup xs =>
    obtain ⟨a, vs, rfl, hs, hr⟩ := r1
    cases h
    refine .inr (.inl ⟨vs, hs, ?_⟩)
    cases xs with
    | nil => rw [hr.1]; rfl
    | cons x xs => obtain ⟨v, r, P1, P2, e, _⟩ := hr; rw [e]; rfl
  | lst o xs =>
    have hl : ∃ a vs P', v = .ref a ∧ H a = some (.lst vs) ∧ Rps K H A xs vs P' := by
      cases o with
      | true => obtain ⟨a, vs, P', e, hs, _, r⟩ := r1; exact ⟨a, vs, P', e, hs, r⟩
      | false => obtain ⟨a, vs, e, hs, _, _, r⟩ := r1; exact ⟨a, vs, _, e, hs, r⟩
    obtain ⟨a, vs, P', rfl, hs, hr⟩ := hl
    cases h
    refine .inl ⟨vs, SqL.of hs, ?_⟩
    cases xs with
    | nil => rw [hr.1]; rfl
    | cons x xs => obtain ⟨v, r, P1, P2, e, _⟩ := hr; rw [e]; rfl
  | scr xs =>
    obtain ⟨a, vs, rfl, hs, hr⟩ := r1.rdScr
    cases h
    refine .inl ⟨vs, hs, ?_⟩
    cases xs with
    | nil => rw [hr.1]; rfl
    | cons x xs => obtain ⟨v, r, P1, P2, e, _⟩ := hr; rw [e]; rfl
  | dk o ks xs =>
    have hl : ∃ a vs, v = .ref a ∧ H a = some (.dK (ks.zip vs)) ∧ ks.length = vs.length := by
      cases o with
      | true => obtain ⟨a, vs, P', e, hs, hl, _, r⟩ := r1; exact ⟨a, vs, e, hs, hl⟩
      | false => obtain ⟨a, vs, e, hs, hl, _, _, r⟩ := r1; exact ⟨a, vs, e, hs, hl⟩
    obtain ⟨a, vs, rfl, hs, hl⟩ := hl
    cases h
    refine .inr (.inr ⟨_, hs, ?_⟩)
    cases ks with
    | nil => rfl
    | cons c ks => cases vs with
      | nil => cases hl
      | cons v vs => rfl
  | ins o c ks xs => cases h
end
end Mn

/-! Mn G: built-in functions. -/
namespace Mn
open PySem L2
def BI.name : BI → String
  | .len => "len" | .int => "int" | .abs => "abs" | .min2 => "min" | .max2 => "max" | .list => "list" | .tuple => "tuple" | .sorted => "sorted" | .repr => "repr" | .str => "str"
  | .all => "all" | .any => "any" | .sum => "sum" | .divmod => "divmod" | .sortset => "" | .lenset => "" | .listrange => "" | .max1 => "max" | .min1 => "min"
def BI.val : BI → Value
  | .int => .type "int" | .list => .type "list" | .tuple => .type "tuple" | .str => .type "str"
  | b => .builtin b.name
theorem ints?_eq : ∀ {xs : List D} {ns : List Int}, ints? xs = some ns → xs = ns.map .int
  | [], ns, h => by cases h; rfl
  | x :: xs, ns, h => by
    cases x <;> simp [ints?] at h
    obtain ⟨a, h1, rfl⟩ := h
    rw [ints?_eq h1]
    rfl
theorem strs?_eq : ∀ {xs : List D} {ns : List Str}, strs? xs = some ns → xs = ns.map .str
  | [], ns, h => by cases h; rfl
  | x :: xs, ns, h => by
    cases x <;> simp [strs?] at h
    obtain ⟨a, h1, rfl⟩ := h
    rw [strs?_eq h1]
    rfl
theorem bls?_eq : ∀ {xs : List D} {ns : List Bool}, bls? xs = some ns → xs = ns.map .bl
  | [], ns, h => by cases h; rfl
  | x :: xs, ns, h => by
    cases x <;> simp [bls?] at h
    obtain ⟨a, h1, rfl⟩ := h
    rw [bls?_eq h1]
    rfl
theorem leS_trans (a b c : Str) (h1 : leS a b = true) (h2 : leS b c = true) : leS a c = true := decide_eq_true (List.le_trans (of_decide_eq_true h1) (of_decide_eq_true h2))
theorem leS_total (a b : Str) : (leS a b || leS b a) = true := by
  rcases List.le_total a.cps.toList b.cps.toList with h | h
  · rw [show leS a b = true from decide_eq_true h]; rfl
  · rw [show leS b a = true from decide_eq_true h, Bool.or_true]
theorem leS_anti {a b : Str} (h1 : leS a b = true) (h2 : leS b a = true) : a = b := by
  have := List.le_antisymm (of_decide_eq_true h1) (of_decide_eq_true h2)
  cases a
  cases b
  simp only [Str.mk.injEq]
  exact Array.ext' this
theorem leS_ltCps {a b : Str} : leS a b = !PySem.Spec.ltCps b.cps.toList a.cps.toList := by
  rw [PyProof.Rows.ltCps_eq]
  unfold leS
  by_cases h : b.cps.toList < a.cps.toList
  · rw [decide_eq_true h, decide_eq_false (List.not_le.mpr h)]; rfl
  · rw [decide_eq_false h, decide_eq_true (List.not_lt.mp h)]; rfl
theorem rising_pw : ∀ {l : List Str} {p : Str}, PyProof.Rows.risingS p l = true → (p :: l).Pairwise fun a b => leS a b = true
  | [], p, _ => by simp
  | x :: r, p, h => by
    have h' : leS p x = true ∧ PyProof.Rows.risingS x r = true := by
      have h2 := (Bool.and_eq_true _ _).mp (show ((!PySem.Spec.ltCps x.cps.toList p.cps.toList) && PyProof.Rows.risingS x r) = true from h)
      exact ⟨leS_ltCps.trans h2.1, h2.2⟩
    have ih := rising_pw h'.2
    refine List.pairwise_cons.mpr ⟨fun y hy => ?_, ih⟩
    rcases List.mem_cons.mp hy with rfl | hy
    · exact h'.1
    · exact leS_trans _ _ _ h'.1 ((List.pairwise_cons.mp ih).1 y hy)
theorem sortS_unique {xs ys : List Str} (p : ys.Perm xs) (h : PyProof.Rows.sortedS ys = true) : ys = sortS xs := by
  have h1 : ys.Pairwise fun a b => leS a b = true := by
    cases ys with
    | nil => exact List.Pairwise.nil
    | cons y ys => exact rising_pw h
  have h2 : (sortS xs).Pairwise fun a b => leS a b = true := List.pairwise_mergeSort leS_trans leS_total xs
  exact (p.trans (List.mergeSort_perm xs leS).symm).eq_of_pairwise (fun a b _ _ e1 e2 => leS_anti e1 e2) h1 h2
theorem sortI_unique {xs ys : List Int} (p : ys.Perm xs) (h : ys.Pairwise (· ≤ ·)) : ys = sortI xs := by
  have h2 : (sortI xs).Pairwise fun a b => decide (a ≤ b) = true := List.pairwise_mergeSort (le := fun a b : Int => decide (a ≤ b)) (fun a b c h1 h2 => decide_eq_true (Int.le_trans (of_decide_eq_true h1) (of_decide_eq_true h2)))
    (fun a b => by rcases Int.le_total a b with h | h <;> simp [h]) xs
  exact (p.trans (List.mergeSort_perm xs _).symm).eq_of_pairwise (fun a b _ _ e1 e2 => Int.le_antisymm e1 e2) h (h2.imp fun h => of_decide_eq_true h)
theorem char_ok (c : Char) : c.toNat < 0x110000 := by
  have h := c.valid
  simp only [UInt32.isValidChar, Nat.isValidChar] at h
  show c.val.toNat < _
  omega
theorem strOk_of (s : String) : PyData.strOk (Str.ofString s) = true := strOk_list.mpr fun c hc => by
  rw [PyProof.Rows.signs_ofString] at hc
  obtain ⟨d, _, rfl⟩ := List.mem_map.mp hc
  exact char_ok d
theorem strOk_join {sep : Str} (h : PyData.strOk sep = true) : ∀ {xs : List Str}, (∀ x, x ∈ xs → PyData.strOk x = true) → PyData.strOk (Str.join sep xs) = true
  | [], _ => strOk_of ""
  | [x], k => k x (by simp)
  | x :: y :: r, k => strOk_append (strOk_append (k x (by simp)) h) (strOk_join h fun z hz => k z (by simp at hz ⊢; exact .inr hz))
theorem reprChar_ok {q c : Nat} (hq : q < 0x110000) (hc : c < 0x110000) : ∀ d, d ∈ Builtin.Str.reprChar q c → d < 0x110000 := by
  have hx : ∀ (n d : Nat), d ∈ List.replicate (n - ((Nat.toDigits 16 c).map Char.toNat).length) 48 ++ (Nat.toDigits 16 c).map Char.toNat → d < 0x110000 := fun n d hd => by
    rcases List.mem_append.mp hd with h | h
    · rw [List.eq_of_mem_replicate h]; decide
    · obtain ⟨e, _, rfl⟩ := List.mem_map.mp h
      exact char_ok e
  intro d hd
  unfold Builtin.Str.reprChar at hd
  simp only at hd
  split at hd
  · rcases List.mem_cons.mp hd with rfl | hd
    · decide
    · rw [List.mem_singleton.mp hd]; exact hc
  · split at hd
    · simp at hd; omega
    · split at hd
      · simp at hd; omega
      · split at hd
        · simp at hd; omega
        · split at hd
          · rw [List.mem_singleton.mp hd]; exact hc
          · split at hd
            · rcases List.mem_append.mp hd with h | h
              · simp at h; omega
              · exact hx 2 d h
            · split at hd
              · rcases List.mem_append.mp hd with h | h
                · simp at h; omega
                · exact hx 4 d h
              · rcases List.mem_append.mp hd with h | h
                · simp at h; omega
                · exact hx 8 d h
theorem reprText_ok {x : Str} (h : PyData.strOk x = true) : PyData.strOk (reprText x) = true := by
  have hq : reprQuote x < 0x110000 := by unfold reprQuote; split <;> decide
  have fold : ∀ (l : List Nat) (acc : Array Nat), (∀ c, c ∈ l → c < 0x110000) → (∀ c, c ∈ acc.toList → c < 0x110000) → ∀ c, c ∈ (l.foldl (fun out c => out ++ (Builtin.Str.reprChar (reprQuote x) c).toArray) acc).toList → c < 0x110000 := by
    intro l
    induction l with
    | nil => intro acc _ h2 c hc; exact h2 c hc
    | cons a l ih =>
      intro acc h1 h2
      refine ih _ (fun c hc => h1 c (List.mem_cons_of_mem _ hc)) fun c hc => ?_
      rw [Array.toList_append] at hc
      rcases List.mem_append.mp hc with hc | hc
      · exact h2 c hc
      · exact reprChar_ok hq (h1 a List.mem_cons_self) c (by simpa using hc)
  refine strOk_list.mpr fun c hc => ?_
  unfold reprText at hc
  simp only [Array.toList_push] at hc
  rcases List.mem_append.mp hc with hc | hc
  · rw [← Array.foldl_toList] at hc
    exact fold x.cps.toList #[reprQuote x] (strOk_list.mp h) (fun c hc => by simp at hc; omega) c hc
  · rw [List.mem_singleton.mp hc]; exact hq
theorem textFrom_ok : ∀ (ts : List Str) (k : Nat) (acc : Str), PyData.strOk acc = true → (∀ t, t ∈ ts → PyData.strOk t = true) → PyData.strOk (textFrom k acc ts) = true
  | [], k, acc, h, _ => h
  | t :: r, k, acc, h, g => textFrom_ok r (k + 1) _ (strOk_append (strOk_append h (strOk_of _)) (g t List.mem_cons_self)) fun u hu => g u (List.mem_cons_of_mem _ hu)
mutual
theorem shown_ok : ∀ {d : PyData}, d.canLay0 = true → PyData.strOk d.shown = true
  | .none, _ => by simp only [PyData.shown]; exact strOk_of _
  | .bool b, _ => by simp only [PyData.shown]; split <;> exact strOk_of _
  | .int i, _ => by simp only [PyData.shown]; exact strOk_of _
  | .str x, h => by
    simp only [PyData.canLay0] at h
    simp only [PyData.shown]
    exact reprText_ok h
  | .list xs, h => by
    simp only [PyData.canLay0] at h
    simp only [PyData.shown]
    exact strOk_append (textFrom_ok _ _ _ (strOk_of _) (shownAll_ok h)) (strOk_of _)
  | .tuple xs, h => by
    simp only [PyData.canLay0] at h
    simp only [PyData.shown]
    exact strOk_append (strOk_append (strOk_of _) (strOk_join (strOk_of _) (shownAll_ok h))) (strOk_of _)
  | .dict _, h => by simp [PyData.canLay0] at h
theorem shownAll_ok : ∀ {ds : List PyData}, PyData.canLayAll0 ds = true → ∀ t, t ∈ PyData.shownAll ds → PyData.strOk t = true
  | [], _, t, ht => by simp [PyData.shownAll] at ht
  | x :: xs, h, t, ht => by
    simp only [PyData.canLayAll0, Bool.and_eq_true] at h
    simp only [PyData.shownAll, List.mem_cons] at ht
    rcases ht with rfl | ht
    · exact shown_ok h.1
    · exact shownAll_ok h.2 t ht
end
section
variable {P : Program} {w : World} {K : PySem.W.Frag} {mg : Str → Option Value} {base : Heap} {L : Lx} {H : Hp} {A : AP} {X : Cx}
theorem rps_ints : ∀ {ns : List Int} {vs : List V} {P : List Addr}, Rps K H A (ns.map .int) vs P → vs = ns.map V.int ∧ P = []
  | [], vs, P, h => ⟨h.1, h.2⟩
  | n :: ns, vs, P, ⟨v, r, P1, P2, e, ep, h1, h2⟩ => by
    obtain ⟨e1, e2⟩ := rps_ints h2
    rw [e, ep, e1, e2, h1.1, h1.2]
    exact ⟨rfl, rfl⟩
theorem rps_ints' : ∀ {ns : List Int}, Rps K H A (ns.map .int) (ns.map V.int) []
  | [] => ⟨rfl, rfl⟩
  | n :: ns => ⟨_, _, [], [], rfl, rfl, ⟨rfl, rfl⟩, rps_ints'⟩
theorem rps_bls : ∀ {ns : List Bool} {vs : List V} {P : List Addr}, Rps K H A (ns.map .bl) vs P → vs = ns.map V.bl ∧ P = []
  | [], vs, P, h => ⟨h.1, h.2⟩
  | n :: ns, vs, P, ⟨v, r, P1, P2, e, ep, h1, h2⟩ => by
    obtain ⟨e1, e2⟩ := rps_bls h2
    rw [e, ep, e1, e2, h1.1, h1.2]
    exact ⟨rfl, rfl⟩
theorem rps_strs : ∀ {ns : List Str} {vs : List V} {P : List Addr}, Rps K H A (ns.map .str) vs P → vs = ns.map V.str ∧ P = [] ∧ ∀ x, x ∈ ns → PyData.strOk x = true
  | [], vs, P, h => ⟨h.1, h.2, fun x h => nomatch h⟩
  | n :: ns, vs, P, ⟨v, r, P1, P2, e, ep, h1, h2⟩ => by
    obtain ⟨e1, e2, k⟩ := rps_strs h2
    rw [e, ep, e1, e2, h1.1, h1.2.1]
    refine ⟨rfl, rfl, fun x hx => ?_⟩
    rcases List.mem_cons.mp hx with rfl | hx
    · exact h1.2.2
    · exact k x hx
theorem rps_strs' : ∀ {ns : List Str}, (∀ x, x ∈ ns → PyData.strOk x = true) → Rps K H A (ns.map .str) (ns.map V.str) []
  | [], _ => ⟨rfl, rfl⟩
  | n :: ns, h => ⟨_, _, [], [], rfl, rfl, ⟨rfl, rfl, h n List.mem_cons_self⟩, rps_strs' fun x hx => h x (List.mem_cons_of_mem _ hx)⟩
theorem rps_flat : ∀ {ds : List D} {vs : List V} {P : List Addr}, ds.all okA = true → Rps K H A ds vs P → vs = ds.map vA ∧ P = []
  | [], vs, P, _, h => ⟨h.1, h.2⟩
  | d :: ds, vs, P, ok, ⟨v, r, P1, P2, e, ep, h1, h2⟩ => by
    have ok := (Bool.and_eq_true _ _).mp ok
    obtain ⟨e1, e2⟩ := rps_flat ok.2 h2
    have e3 : v = vA d ∧ P1 = [] := by
      have := ok.1
      cases d <;> first | (cases this; done) | skip
      · exact ⟨h1.1, h1.2⟩
      · exact ⟨h1.1, h1.2⟩
      · exact ⟨h1.1, h1.2.1⟩
    rw [e, ep, e1, e2, e3.1, e3.2]
    exact ⟨rfl, rfl⟩
theorem rps_tups : ∀ {xs : List D} {us : List V}, (∀ x, x ∈ xs → ∃ ds, x = .tup ds ∧ ds.all okA = true) → Rps K H A xs us [] → ∃ ts : List (List D × V), xs = ts.map (fun p => D.tup p.1) ∧ us = ts.map (·.2) ∧ ∀ p, p ∈ ts → Rp K H A (.tup p.1) p.2 [] ∧ ∃ t, p.2 = .ref t ∧ SqT K H t (p.1.map vA)
  | [], us, _, h => ⟨[], rfl, h.1, fun p z => nomatch z⟩
  | x :: xs, us, ok, ⟨v, r, P1, P2, e, ep, h1, h2⟩ => by
    have e0 := List.append_eq_nil_iff.mp ep.symm
    rw [e0.1] at h1
    rw [e0.2] at h2
    obtain ⟨ts, e1, e2, k⟩ := rps_tups (fun x hx => ok x (List.mem_cons_of_mem _ hx)) h2
    obtain ⟨ds, ed, okd⟩ := ok x List.mem_cons_self
    subst ed
    obtain ⟨a, vs, ev, hs, rr⟩ := id h1
    obtain ⟨e3, _⟩ := rps_flat okd rr
    subst e3
    refine ⟨(ds, v) :: ts, by rw [e1]; rfl, by rw [e, e2]; rfl, fun p hp => ?_⟩
    rcases List.mem_cons.mp hp with rfl | hp
    · exact ⟨h1, a, ev, hs⟩
    · exact k p hp
theorem rps_tups' : ∀ {ts : List (List D × V)}, (∀ p, p ∈ ts → Rp K H A (.tup p.1) p.2 []) → Rps K H A (ts.map fun p => D.tup p.1) (ts.map (·.2)) []
  | [], _ => ⟨rfl, rfl⟩
  | p :: ts, h => ⟨_, _, [], [], rfl, rfl, h p List.mem_cons_self, rps_tups' fun q hq => h q (List.mem_cons_of_mem _ hq)⟩
theorem Rps.one_inv {d : D} {vs : List V} (h : Rps K H A [d] vs []) : ∃ v, vs = [v] ∧ Rp K H A d v [] := by
  obtain ⟨v, r, P1, P2, e, ep, h1, h2⟩ := h
  have e0 := List.append_eq_nil_iff.mp ep.symm
  rw [e0.1] at h1
  rw [h2.1] at e
  exact ⟨v, e, h1⟩
theorem Rps.two_inv {d e : D} {vs : List V} (h : Rps K H A [d, e] vs []) : ∃ v u, vs = [v, u] ∧ Rp K H A d v [] ∧ Rp K H A e u [] := by
  obtain ⟨v, r, P1, P2, e1, ep, h1, h2⟩ := h
  have e0 := List.append_eq_nil_iff.mp ep.symm
  rw [e0.1] at h1
  rw [e0.2] at h2
  obtain ⟨u, e2, h3⟩ := h2.one_inv
  exact ⟨v, u, by rw [e1, e2], h1, h3⟩
/-- sequences that are read -/
theorem Rp.seq {d : D} {xs : List D} {v : V} (h : Rp K H A d v []) (e : seqD d = some xs) : ∃ a vs, v = .ref a ∧ (SqL K H a vs ∨ SqT K H a vs) ∧ Rps K H A xs vs [] := by
  cases d <;> simp [seqD] at e
  · subst e
    obtain ⟨a, vs, e, hs, r⟩ := h
    exact ⟨a, vs, e, .inr hs, r⟩
  · subst e
    obtain ⟨a, vs, e, hs, r⟩ := h.lst0
    exact ⟨a, vs, e, .inl (SqL.of hs), r⟩
  · subst e
    obtain ⟨a, vs, e, hs, r⟩ := h.rdScr
    exact ⟨a, vs, e, .inl hs, r⟩
def rLenK : List V → Hp → VK → Prop := fun xs H Q => ∃ a kvs, xs = [.ref a] ∧ H a = some (.dK kvs) ∧ Q (.int kvs.length) H
theorem call_lenK : CallR X (.builtin "len") rLenK := by
  intro pins s σ H xs us Q I r h
  obtain ⟨a, kvs, rfl, ha, q⟩ := h
  rw [Vals.ref1 r]
  exact d_len I (.inl ha) fun t s' I' => ⟨.int _, H, I', ⟨t, rfl⟩, q⟩
def rRepr (K : PySem.W.Frag) : List V → Hp → VK → Prop := fun xs H Q => ∃ a d, xs = [.ref a] ∧ Dp K H (.ref a) d ∧ d.canLay0 = true ∧ d.depth ≤ 60 ∧ d.showable = true ∧ d.shown.length ≤ sizeLine ∧ Q (.str d.shown) H
theorem call_repr (hg : X.A.guards = some []) (hu : X.A.units + 64 < cLine) : CallR X (.builtin "repr") (rRepr X.K) := by
  intro pins s σ H xs us Q I r h
  obtain ⟨a, d, rfl, hd, hl, hdp, hs, hz, q⟩ := h
  rw [Vals.ref1 r]
  obtain ⟨as, rd⟩ := Dp.reads I d (.ref a) (.ref a) hd rfl
  exact repr_of_reads' rd hs (PyData.noDict_hsm (PyData.hasDict_of_canLay d hl)) hg (by omega) (fun _ _ e => e) (fun h' u tk hk => ⟨.str _, H, I.kept hk, ⟨u, rfl⟩, q⟩) hz
theorem call_reprN : CallR X (.builtin "repr") (fun xs H Q => xs = [.non] ∧ Q (.str "None") H) := by
  intro pins s σ H xs us Q I r h
  obtain ⟨rfl, q⟩ := h
  obtain ⟨u, rfl, r1⟩ := vals1 r
  cases r1
  exact PySem.P.repr_of_none ⟨.str _, H, I.tok _, ⟨_, rfl⟩, q⟩
theorem call_reprB : CallR X (.builtin "repr") (fun xs H Q => ∃ b, xs = [.bl b] ∧ Q (.str (if b then "True" else "False")) H) := by
  intro pins s σ H xs us Q I r h
  obtain ⟨b, rfl, q⟩ := h
  obtain ⟨u, rfl, r1⟩ := vals1 r
  cases r1
  exact PySem.P.repr_of_bool ⟨.str _, H, I.tok _, ⟨_, rfl⟩, q⟩
theorem call_reprI : CallR X (.builtin "repr") (fun xs H Q => ∃ i, xs = [.int i] ∧ i.natAbs.log2 < 1920 ∧ Q (.str (toString i)) H) := by
  intro pins s σ H xs us Q I r h
  obtain ⟨i, rfl, hz, q⟩ := h
  obtain ⟨u, rfl, t, rfl⟩ := vals1 r
  exact PySem.P.repr_of_int hz ⟨.str _, H, I.tok _, ⟨_, rfl⟩, q⟩
theorem call_reprS : CallR X (.builtin "repr") (fun xs H Q => ∃ x, xs = [.str x] ∧ (reprText x).length ≤ sizeLine ∧ Q (.str (reprText x)) H) := by
  intro pins s σ H xs us Q I r h
  obtain ⟨x, rfl, hz, q⟩ := h
  obtain ⟨u, rfl, t, rfl⟩ := vals1 r
  exact PySem.P.repr_of_str ⟨.str _, H, I.tok _, ⟨_, rfl⟩, q⟩ hz
theorem biD_ok {b : BI} {ds : List D} {d : D} {vs : List V} {Q : VK} (r : Rps K H A ds vs []) (h : biD b ds = some d) (m : Made K H A d Q) : Wc P w K mg base L b.val vs H Q := by
  unfold biD at h
  split at h
  · rename_i x
    obtain ⟨v, rfl, r1⟩ := r.one_inv
    obtain ⟨n, hn, e⟩ := Option.map_eq_some_iff.mp h
    subst e
    cases x <;> simp only [lenD] at hn <;> first | (cases hn; done) | skip
    · obtain ⟨hz, e⟩ := opt_if hn
      subst e
      obtain ⟨rfl, _⟩ := r1
      exact ⟨_, fun X _ => call_len_str, _, rfl, hz, m.int⟩
    · cases hn
      obtain ⟨a, us, rfl, hs, q⟩ := r1
      exact ⟨_, fun X hX => hX.K ▸ call_len_seq, a, us, rfl, .inr hs, by rw [q.length]; exact m.int⟩
    · cases hn
      obtain ⟨a, us, rfl, hs, q⟩ := r1.lst0
      exact ⟨_, fun X hX => hX.K ▸ call_len_seq, a, us, rfl, .inl (SqL.of hs), by rw [q.length]; exact m.int⟩
    · cases hn
      obtain ⟨a, us, rfl, hs, q⟩ := r1.rdScr
      exact ⟨_, fun X hX => hX.K ▸ call_len_seq, a, us, rfl, .inl hs, by rw [q.length]; exact m.int⟩
    · cases hn
      obtain ⟨a, us, rfl, hs, hl, q⟩ := r1.dk0
      refine ⟨_, fun X hX => call_lenK, a, _, rfl, hs, ?_⟩
      rw [List.length_zip, ← hl, Nat.min_self]
      exact m.int
  · cases h
    obtain ⟨v, rfl, r1⟩ := r.one_inv
    obtain ⟨rfl, _⟩ := r1
    exact ⟨_, fun X _ => call_int1, .inl ⟨_, rfl, m.int⟩⟩
  · cases h
    obtain ⟨v, rfl, r1⟩ := r.one_inv
    obtain ⟨rfl, _⟩ := r1
    exact ⟨_, fun X _ => call_int1, .inr ⟨_, rfl, m.int⟩⟩
  · cases h
    obtain ⟨v, rfl, r1⟩ := r.one_inv
    obtain ⟨rfl, _⟩ := r1
    exact ⟨_, fun X _ => call_abs, _, rfl, m.int⟩
  · cases h
    obtain ⟨v, u, rfl, r1, r2⟩ := r.two_inv
    obtain ⟨rfl, _⟩ := r1
    obtain ⟨rfl, _⟩ := r2
    exact ⟨_, fun X hX => call_min2 hX.calm, _, _, rfl, m.int⟩
  · cases h
    obtain ⟨v, u, rfl, r1, r2⟩ := r.two_inv
    obtain ⟨rfl, _⟩ := r1
    obtain ⟨rfl, _⟩ := r2
    exact ⟨_, fun X hX => call_max2 hX.calm, _, _, rfl, m.int⟩
  · obtain ⟨v, rfl, r1⟩ := r.one_inv
    obtain ⟨xs, hx, e⟩ := Option.map_eq_some_iff.mp h
    subst e
    obtain ⟨a, us, rfl, hs, q⟩ := r1.seq hx
    exact ⟨_, fun X hX => hX.K ▸ call_list_of, a, us, rfl, hs, m.lst q⟩
  · obtain ⟨v, rfl, r1⟩ := r.one_inv
    obtain ⟨xs, hx, e⟩ := Option.map_eq_some_iff.mp h
    subst e
    obtain ⟨a, us, rfl, hs, q⟩ := r1.seq hx
    refine ⟨_, fun X hX => hX.K ▸ call_tuple_of, a, us, rfl, hs.elim (fun hs => .inl ⟨hs, m.tup q⟩) fun hs => .inr ⟨hs, m.same ⟨a, us, rfl, hs, q⟩⟩⟩
  · obtain ⟨v, rfl, r1⟩ := r.one_inv
    obtain ⟨a, us, rfl, hs, q⟩ := r1.lst0
    split at h
    · rename_i ns e
      cases h
      rw [ints?_eq e] at q
      obtain ⟨e1, _⟩ := rps_ints q
      subst e1
      refine ⟨_, fun X hX => hX.K ▸ cr_sortedI, a, ns, rfl, SqL.of hs, fun ns' p hp hs' hn => ?_⟩
      rw [sortI_unique hp hs']
      exact m.lst rps_ints' p hn
    · split at h
      · rename_i ss e
        obtain ⟨h64, e2⟩ := opt_if h
        subst e2
        rw [strs?_eq e] at q
        obtain ⟨e1, _, k⟩ := rps_strs q
        subst e1
        refine ⟨_, fun X hX => hX.K ▸ cr_sortedS, a, ss, rfl, SqL.of hs, h64, fun ns' p hp hs' hn => ?_⟩
        have e3 := sortS_unique hp hs'
        rw [e3]
        exact m.lst (rps_strs' fun x hx => k x (hp.mem_iff.mp (by rw [e3]; exact hx))) p hn
      · obtain ⟨zs, h2, e2⟩ := Option.map_eq_some_iff.mp h
        subst e2
        obtain ⟨hok, e3⟩ := opt_if h2
        subst e3
        obtain ⟨ts, e4, e5, k⟩ := rps_tups (sortOk_items hok) q
        subst e4 e5
        refine ⟨_, fun X hX => hX.K ▸ cr_sortT, a, ts, rfl, SqL.of hs, fun p hp => (k p hp).2, hok, fun p hn => ?_⟩
        rw [srtBy_map] at m
        exact m.lst (rps_tups' fun p hp => (k p (srtBy_mem.mp hp)).1) p hn
  · rename_i x
    obtain ⟨hc, e⟩ := opt_if h
    subst e
    obtain ⟨v, rfl, r1⟩ := r.one_inv
    have hc1 := (Bool.and_eq_true _ _).mp hc
    have hc2 := (Bool.and_eq_true _ _).mp hc1.2
    have hc3 := (Bool.and_eq_true _ _).mp hc2.1
    have hsz := of_decide_eq_true hc2.2
    have hcl := r1.canLay hc3.1
    have hm : Q (.str (toPy x).shown) H := m.str (shown_ok hcl)
    cases x <;> first | (cases hc1.1; done) | skip
    · obtain ⟨rfl, _⟩ := r1
      exact ⟨_, fun X _ => call_reprN, rfl, hm⟩
    · obtain ⟨rfl, _⟩ := r1
      exact ⟨_, fun X _ => call_reprB, _, rfl, hm⟩
    · obtain ⟨rfl, _⟩ := r1
      exact ⟨_, fun X _ => call_reprI, _, rfl, of_decide_eq_true hc3.2, hm⟩
    · obtain ⟨rfl, _⟩ := r1
      exact ⟨_, fun X _ => call_reprS, _, rfl, hsz, hm⟩
    · have r2 := r1
      obtain ⟨a, _, e, _⟩ := r2
      subst e
      exact ⟨_, fun X hX => hX.K ▸ call_repr hX.gd hX.u64, a, _, rfl, r1.dp hc3.1, hcl, plain_depth hc3.1, hc3.2, hsz, hm⟩
    · obtain ⟨a, _, e, _⟩ := r1.lst0
      subst e
      exact ⟨_, fun X hX => hX.K ▸ call_repr hX.gd hX.u64, a, _, rfl, r1.dp hc3.1, hcl, plain_depth hc3.1, hc3.2, hsz, hm⟩
  · obtain ⟨hc, e⟩ := opt_if h
    subst e
    obtain ⟨v, rfl, r1⟩ := r.one_inv
    obtain ⟨rfl, _⟩ := r1
    exact ⟨_, fun X _ => call_str_int, _, rfl, hc, m.str (shown_ok (d := .int _) rfl)⟩
  · obtain ⟨v, rfl, r1⟩ := r.one_inv
    obtain ⟨bs, hb, e⟩ := Option.map_eq_some_iff.mp h
    subst e
    obtain ⟨a, us, rfl, hs, q⟩ := r1.lst0
    rw [bls?_eq hb] at q
    obtain ⟨e1, _⟩ := rps_bls q
    subst e1
    exact ⟨_, fun X hX => hX.K ▸ cr_all hX.calm, a, bs, rfl, SqL.of hs, m.bl⟩
  · obtain ⟨v, rfl, r1⟩ := r.one_inv
    obtain ⟨bs, hb, e⟩ := Option.map_eq_some_iff.mp h
    subst e
    obtain ⟨a, us, rfl, hs, q⟩ := r1.lst0
    rw [bls?_eq hb] at q
    obtain ⟨e1, _⟩ := rps_bls q
    subst e1
    exact ⟨_, fun X hX => hX.K ▸ cr_any hX.calm, a, bs, rfl, SqL.of hs, m.bl⟩
  · obtain ⟨v, rfl, r1⟩ := r.one_inv
    obtain ⟨bs, hb, e⟩ := Option.map_eq_some_iff.mp h
    subst e
    obtain ⟨a, us, rfl, hs, q⟩ := r1.lst0
    rw [ints?_eq hb] at q
    obtain ⟨e1, _⟩ := rps_ints q
    subst e1
    exact ⟨_, fun X hX => hX.K ▸ cr_sum hX.calm, a, bs, rfl, SqL.of hs, m.int⟩
  · obtain ⟨hc, e⟩ := opt_if h
    subst e
    obtain ⟨v, u, rfl, r1, r2⟩ := r.two_inv
    obtain ⟨rfl, _⟩ := r1
    obtain ⟨rfl, _⟩ := r2
    exact ⟨_, fun X hX => call_divmod, _, _, rfl, hc, m.tup (vs := [.int _, .int _]) ⟨_, _, [], [], rfl, rfl, ⟨rfl, rfl⟩, ⟨_, _, [], [], rfl, rfl, ⟨rfl, rfl⟩, rfl, rfl⟩⟩⟩
  · obtain ⟨v, rfl, r1⟩ := r.one_inv
    obtain ⟨ns, hb, h2⟩ := Option.bind_eq_some_iff.mp h
    obtain ⟨x, hx, e⟩ := Option.map_eq_some_iff.mp h2
    subst e
    obtain ⟨a, us, rfl, hs, q⟩ := r1.lst0
    rw [ints?_eq hb] at q
    obtain ⟨e1, _⟩ := rps_ints q
    subst e1
    have hx2 := List.max?_eq_some_iff.mp hx
    refine ⟨_, fun X hX => hX.K ▸ cr_max hX.calm, a, ns, rfl, SqL.of hs, List.length_pos_of_mem hx2.1, fun z hz hle => ?_⟩
    have e : z = x := Int.le_antisymm (hx2.2 z hz) (hle x hx2.1)
    rw [e]
    exact m.int
  · obtain ⟨v, rfl, r1⟩ := r.one_inv
    obtain ⟨ns, hb, h2⟩ := Option.bind_eq_some_iff.mp h
    obtain ⟨x, hx, e⟩ := Option.map_eq_some_iff.mp h2
    subst e
    obtain ⟨a, us, rfl, hs, q⟩ := r1.lst0
    rw [ints?_eq hb] at q
    obtain ⟨e1, _⟩ := rps_ints q
    subst e1
    have hx2 := List.min?_eq_some_iff.mp hx
    refine ⟨_, fun X hX => hX.K ▸ cr_min hX.calm, a, ns, rfl, SqL.of hs, List.length_pos_of_mem hx2.1, fun z hz hle => ?_⟩
    have e : z = x := Int.le_antisymm (hle x hx2.1) (hx2.2 z hz)
    rw [e]
    exact m.int
  · cases h
end
end Mn

/-! Mn H: expressions keep their readings (1). -/
namespace Mn
open PySem L2
section
variable (P : Program) (w : World) (K : PySem.W.Frag) (mg : Str → Option Value) (base : Heap) (cf : Nat → List D → Option (D × List D))
def EOk (L : Lx) (e : Expr) (ir : E) : Prop := ∀ (F : AP) (ρ : Env) (own : Own) (σ : L2.St) (H : Hp), EnvR K F ρ own σ H → ∀ (d : D) (ρ' : Env), den cf ir ρ = .ok d ρ' → ∀ Q : VK,
  (∀ v P' own' H', Res K F ir.U ir.W own H ρ' σ d v P' own' H' → Q v H') → We P w K mg base L e σ H Q
def TOk (L : Lx) (e : Expr) (ir : E) : Prop := ∀ (F : AP) (ρ : Env) (own : Own) (σ : L2.St) (H : Hp), EnvR K F ρ own σ H → ∀ (d : D) (ρ' : Env) (b : Bool), den cf ir ρ = .ok d ρ' → truthD d = some b → ∀ Q : Bool → Hp → Prop,
  (∀ own' H', EnvR K F ρ' own' σ H' → Post ir.W own H [] own' H' → Q b H') → Wt P w K mg base L e σ H Q
end
theorem R.bind_ok {α β : Type} {r : R α} {f : α → Env → R β} {b : β} {ρ : Env} (h : r.bind f = .ok b ρ) : ∃ a ρ1, r = .ok a ρ1 ∧ f a ρ1 = .ok b ρ := by
  cases r with
  | ok a ρ1 => exact ⟨a, ρ1, rfl, h⟩
  | bad => cases h
theorem R.opt_ok {α : Type} {o : Option α} {ρ ρ' : Env} {a : α} (h : R.opt o ρ = .ok a ρ') : o = some a ∧ ρ' = ρ := by
  cases o with
  | none => cases h
  | some b => cases h; exact ⟨rfl, rfl⟩
theorem R.grd_ok {α : Type} {b : Bool} {r : R α} {a : α} {ρ : Env} (h : R.grd b r = .ok a ρ) : b = true ∧ r = .ok a ρ := by
  unfold R.grd at h
  cases b with
  | true => exact ⟨rfl, h⟩
  | false => cases h
theorem getS_some {ρ : Env} {i : Nat} {d : D} (h : getS ρ i = some d) : ρ[i]? = some (some d) := by
  unfold getS at h
  cases e : ρ[i]? with
  | none => rw [e] at h; cases h
  | some x => rw [e] at h; cases x with
    | none => cases h
    | some y => cases h; rfl
section
variable {P : Program} {w : World} {K : PySem.W.Frag} {mg : Str → Option Value} {base : Heap} {cf : Nat → List D → Option (D × List D)} {L : Lx}
theorem mark_of {b : Expr} {op : CmpOp} (h : ∀ x y z, b ≠ .Set x y z) : behindInMarks op b = false := by
  cases b <;> first | rfl | exact absurd rfl (h _ _ _)
/-! names, constants -/
theorem ok_nm {i : Nat} {x : Str} {pos : Pos} (hN : L.N[i]? = some x) (hv : Vis L.sc x) (hd : (x == ("__debug__" : Str)) = false) (hcd : (x == ("__classdict__" : Str)) = false) : EOk P w K mg base cf L (.Name x pos) (.nm i) := by
  intro F ρ own σ H E d ρ' h Q q
  rw [den] at h
  obtain ⟨h1, rfl⟩ := R.opt_ok h
  obtain ⟨d0, h2, rfl⟩ := Option.map_eq_some_iff.mp h1
  obtain ⟨v, e1, r⟩ := E.rep i d0 (getS_some h2)
  refine ⟨tVar i, fun X hX => pe_var (by rw [hX.N]; exact hN) (by rw [hX.sc]; exact hv) hd hcd, v, e1, ?_⟩
  refine q v [] own H ⟨E.F0', r.frz fun a o e z => ?_, List.nodup_nil, Post.refl⟩
  rcases z with z | z
  · exact ⟨z.1, fun y => (nomatch y), fun j _ => z.2 j⟩
  · exact ⟨E.fr i a z, fun y => (nomatch y), fun j hj => E.dj i j a (fun y => hj (by rw [← y]; exact List.mem_singleton.mpr rfl)) z⟩
def setO (own : Own) (i : Nat) (P : List Addr) : Own := fun j => if j = i then P else own j
theorem setO_same {own : Own} {i : Nat} {P : List Addr} : setO own i P i = P := by unfold setO; rw [if_pos rfl]
theorem setO_ne {own : Own} {i j : Nat} {P : List Addr} (h : j ≠ i) : setO own i P j = own j := by unfold setO; rw [if_neg h]
theorem setO_mem {own : Own} {i j : Nat} {P : List Addr} {b : Addr} : b ∈ setO own i P j ↔ (j = i ∧ b ∈ P) ∨ (j ≠ i ∧ b ∈ own j) := by
  by_cases h : j = i
  · subst h
    rw [setO_same]
    simp
  · rw [setO_ne h]
    simp [h]
theorem setO_nil {own : Own} {i j : Nat} {b : Addr} (h : b ∈ setO own i [] j) : j ≠ i ∧ b ∈ own j := by
  rcases setO_mem.mp h with h | h
  · cases h.2
  · exact h
theorem EnvR.gone {F : AP} {ρ : Env} {own : Own} {σ : L2.St} {H : Hp} {i : Nat} (E : EnvR K F ρ own σ H) : EnvR K (FP F (own i)) (ρ.set i none) (setO own i []) σ H where
  len := by rw [List.length_set]; exact E.len
  rep := fun j d e => by
    by_cases hj : j = i
    · subst hj
      rw [List.getElem?_set] at e
      simp at e
    · rw [List.getElem?_set_ne (Ne.symm hj)] at e
      obtain ⟨v, e1, r⟩ := E.rep j d e
      refine ⟨v, e1, ?_⟩
      rw [setO_ne hj]
      exact r.mono (fun _ _ e _ => e) fun a o _ z => ⟨fun y => y.elim z.1 (z.2 i), fun k hk => z.2 k (setO_nil hk).2⟩
  non := fun j hn => by
    by_cases hj : j = i
    · rw [hj, setO_same]
    · rw [setO_ne hj]
      exact E.non j fun d => by rw [← List.getElem?_set_ne (Ne.symm hj)]; exact hn d
  nd := fun j => by
    by_cases hj : j = i
    · rw [hj, setO_same]; exact List.nodup_nil
    · rw [setO_ne hj]; exact E.nd j
  dj := fun a b x hab ha hb => E.dj a b x hab (setO_nil ha).2 (setO_nil hb).2
  fr := fun j b hb y => y.elim (E.fr j b (setO_nil hb).2) (E.dj j i b (setO_nil hb).1 (setO_nil hb).2)
  fa := fun b y => y.elim (E.fa b) fun y => by
    obtain ⟨o, e, _⟩ := E.own_there y
    rw [e]; simp
theorem ok_mv {i : Nat} {x : Str} {pos : Pos} (hN : L.N[i]? = some x) (hv : Vis L.sc x) (hd : (x == ("__debug__" : Str)) = false) (hcd : (x == ("__classdict__" : Str)) = false) : EOk P w K mg base cf L (.Name x pos) (.mv i) := by
  intro F ρ own σ H E d ρ' h Q q
  rw [den] at h
  obtain ⟨h1, rfl⟩ := R.opt_ok h
  obtain ⟨v, e1, r⟩ := E.rep i d (getS_some h1)
  refine ⟨tVar i, fun X hX => pe_var (by rw [hX.N]; exact hN) (by rw [hX.sc]; exact hv) hd hcd, v, e1, ?_⟩
  refine q v (own i) (setO own i []) H ⟨E.gone, r.mono (fun _ _ e _ => e) fun a o _ z => ⟨z.1, z.2 i, fun j _ y => z.2 j (setO_nil y).2⟩, E.nd i, ?_⟩
  exact ⟨fun _ _ e _ => e, fun _ e => e, fun b hb => .inr ⟨i, List.mem_singleton.mpr rfl, hb⟩, fun j b hb => .inl (setO_nil hb).2⟩
/-- something that is not asked of the slots -/
theorem Res.pure {F : AP} {ρ : Env} {own : Own} {σ : L2.St} {H : Hp} {d : D} {v : V} {U : List Nat} (E : EnvR K F ρ own σ H) (r : Rp K H (AV F U own []) d v []) : Res K F U [] own H ρ σ d v [] own H :=
  ⟨E.F0', r, List.nodup_nil, Post.refl⟩
def constD : Const → Option D
  | .none => some .non
  | .bool b => some (.bl b)
  | .int i => some (.int i)
  | .str s => if PyData.strOk s = true then some (.str s) else none
  | _ => none
theorem ok_cst {c : Const} {d : D} {j : Nat} {pos : Pos} (hc : constD c = some d) : EOk P w K mg base cf L (.Constant c j pos) (.cst d) := by
  intro F ρ own σ H E d' ρ' h Q q
  rw [den] at h
  cases h
  cases c <;> simp only [constD] at hc <;> first | (cases hc; done) | skip
  · cases hc
    exact ⟨_, fun X _ => pe_non, q _ [] own H (Res.pure E ⟨rfl, rfl⟩)⟩
  · cases hc
    exact ⟨_, fun X _ => pe_bl, q _ [] own H (Res.pure E ⟨rfl, rfl⟩)⟩
  · cases hc
    exact ⟨_, fun X _ => pe_int, q _ [] own H (Res.pure E ⟨rfl, rfl⟩)⟩
  · obtain ⟨h1, h2⟩ := opt_if hc
    subst h2
    exact ⟨_, fun X _ => pe_str, q _ [] own H (Res.pure E ⟨rfl, rfl, h1⟩)⟩
/-- the module's constants -/
def GlobOk (K : PySem.W.Frag) (mg : Str → Option Value) (x : Str) (d : D) : Prop := ∃ u v, mg x = some u ∧ RelV v u ∧ ∀ (H : Hp) (A : AP), Rp K H A d v []
theorem gl_of {X : Cx} {x : Str} (hX : InX P w K mg base L X) (h : L.sc.names.lookup x = some .globalImplicit) : Gl X x := by
  show X.env.scope.names.lookup x = _
  rw [hX.sc]
  exact h
theorem ok_glob {x : Str} {d : D} {pos : Pos} (hg : L.sc.names.lookup x = some .globalImplicit) (h : GlobOk K mg x d) (hd : (x == ("__debug__" : Str)) = false) : EOk P w K mg base cf L (.Name x pos) (.glob x d) := by
  intro F ρ own σ H E d' ρ' h' Q q
  rw [den] at h'
  cases h'
  obtain ⟨u, v, h1, h2, h3⟩ := h
  exact ⟨_, fun X hX => pe_glob (gl_of hX hg) (by rw [hX.mg]; exact h1) h2 hd, q _ [] own H (Res.pure E (h3 _ _))⟩
theorem seq_cond {U1 W2 : List Nat} {q : Bool} {d : D} (hq : q = true → ∀ j, j ∈ U1 → j ∉ W2) (h : (q || nfm d) = true) : (∀ j, j ∈ U1 → j ∉ W2) ∨ nfm d = true :=
  ((Bool.or_eq_true _ _).mp h).imp hq id
/-- two operands, shared -/
theorem two_frz {F : AP} {ρ ρ1 ρ2 : Env} {own own1 own2 : Own} {σ : L2.St} {H H1 H2 : Hp} {U1 U2 W1 W2 : List Nat} {d1 d2 : D} {v1 v2 : V} {P1 P2 : List Addr} (E : EnvR K F ρ own σ H) (r1 : Res K F U1 W1 own H ρ1 σ d1 v1 P1 own1 H1)
    (r2 : Res K (FP F P1) U2 W2 own1 H1 ρ2 σ d2 v2 P2 own2 H2) (c : (∀ j, j ∈ U1 → j ∉ W2) ∨ nfm d1 = true) :
    Rp K H2 (AV F (U1 ++ U2) own2 []) (frz d1) v1 [] ∧ Rp K H2 (AV F (U1 ++ U2) own2 []) (frz d2) v2 [] ∧ EnvR K F ρ2 own2 σ H2 ∧ Post (W1 ++ W2) own H [] own2 H2 := by
  have t := Res.two E r1 r2 c
  have f := t.frz E
  obtain ⟨v, r, Q1, Q2, e, ep, g1, g2⟩ := f
  have e0 := List.append_eq_nil_iff.mp ep.symm
  rw [e0.1] at g1
  rw [e0.2] at g2
  obtain ⟨u, s, Q3, Q4, e', ep', g3, _⟩ := g2
  have e1 := List.append_eq_nil_iff.mp ep'.symm
  rw [e1.1] at g3
  cases e
  cases e'
  exact ⟨g1, g3, t.env.F1, t.post.drop fun _ z => nomatch z⟩
/-- a result made of shared ones -/
theorem Made.res {F : AP} {ρ' : Env} {own own1 : Own} {σ : L2.St} {H H1 : Hp} {U W : List Nat} {d : D} {Q : VK} (E : EnvR K F ρ' own1 σ H1) (p : Post W own H [] own1 H1) (q : ∀ v P' own' H', Res K F U W own H ρ' σ d v P' own' H' → Q v H') :
    Made K H1 (AV F U own1 []) d Q := fun v P' H' x hp nd r =>
  q v P' own1 H' (Res.made E p x hp nd (r.mono (fun _ _ e _ => e) fun a o _ z => ⟨z.1.1, z.2, z.1.2.2⟩))
theorem ok_bin {op : BOp} {qf : Bool} {a b : Expr} {ia ib : E} {pos : Pos} (ha : EOk P w K mg base cf L a ia) (hb : EOk P w K mg base cf L b ib) (hq : qf = true → ∀ j, j ∈ ia.U → j ∉ ib.W) : EOk P w K mg base cf L (.BinOp a op.py b pos) (.bin op qf ia ib) := by
  intro F ρ own σ H E d ρ' h Q q
  rw [den] at h
  obtain ⟨x, ρ1, h1, h⟩ := R.bind_ok h
  obtain ⟨y, ρ2, h2, h⟩ := R.bind_ok h
  obtain ⟨hg, h⟩ := R.grd_ok h
  obtain ⟨h3, rfl⟩ := R.opt_ok h
  refine ⟨tOp (Wo P w K mg base L (binaryOp op.py)) (We P w K mg base L a) (We P w K mg base L b), fun X hX => pe_op (Wo.op hX) (We.pe hX) (We.pe hX), ?_⟩
  refine ha F ρ own σ H E x ρ1 h1 _ fun v1 P1 own1 H1 r1 => ?_
  refine hb _ ρ1 own1 σ H1 r1.env y _ h2 _ fun v2 P2 own2 H2 r2 => ?_
  obtain ⟨g1, g2, E2, p⟩ := two_frz E r1 r2 (seq_cond hq hg)
  exact binD_ok g1 g2 h3 (Made.res E2 p q)
theorem ok_neg {a : Expr} {ia : E} {pos : Pos} (ha : EOk P w K mg base cf L a ia) : EOk P w K mg base cf L (.UnaryOp .USub a pos) (.neg ia) := by
  intro F ρ own σ H E d ρ' h Q q
  rw [den] at h
  obtain ⟨x, ρ1, h1, h⟩ := R.bind_ok h
  cases x <;> first | (cases h; done) | skip
  cases h
  refine ⟨tUn (rU fun i => .int (-i)) (We P w K mg base L a), fun X hX => pe_un un_neg (We.pe hX), ?_⟩
  refine ha F ρ own σ H E _ _ h1 _ fun v1 P1 own1 H1 r1 => ?_
  obtain ⟨rfl, e⟩ := r1.rep
  subst e
  exact ⟨_, rfl, q _ [] own1 H1 ⟨r1.env, ⟨rfl, rfl⟩, r1.nd, r1.post⟩⟩
theorem ok_cmp {op : COp} {qf : Bool} {a b : Expr} {ia ib : E} {pos : Pos} (ha : EOk P w K mg base cf L a ia) (hb : EOk P w K mg base cf L b ib) (hq : qf = true → ∀ j, j ∈ ia.U → j ∉ ib.W) (hs : ∀ x y z, b ≠ .Set x y z) :
    EOk P w K mg base cf L (.Compare a [op.py] [b] pos) (.cmp op qf ia ib) := by
  intro F ρ own σ H E d ρ' h Q q
  rw [den] at h
  obtain ⟨x, ρ1, h1, h⟩ := R.bind_ok h
  obtain ⟨y, ρ2, h2, h⟩ := R.bind_ok h
  obtain ⟨hg, h⟩ := R.grd_ok h
  obtain ⟨h3, rfl⟩ := R.opt_ok h
  obtain ⟨c, h4, rfl⟩ := Option.map_eq_some_iff.mp h3
  refine ⟨tOp (Wo P w K mg base L (compareOp op.py)) (We P w K mg base L a) (We P w K mg base L b), fun X hX => pe_cmpR (Wo.op hX) (We.pe hX) (We.pe hX) (mark_of hs), ?_⟩
  refine ha F ρ own σ H E x ρ1 h1 _ fun v1 P1 own1 H1 r1 => ?_
  refine hb _ ρ1 own1 σ H1 r1.env y _ h2 _ fun v2 P2 own2 H2 r2 => ?_
  obtain ⟨g1, g2, E2, p⟩ := two_frz E r1 r2 (seq_cond hq hg)
  exact cmpD_ok g1 g2 h4 ((Made.res E2 p q).bl)
theorem ok_cmpT {op : COp} {qf : Bool} {a b : Expr} {ia ib : E} {pos : Pos} (ha : EOk P w K mg base cf L a ia) (hb : EOk P w K mg base cf L b ib) (hq : qf = true → ∀ j, j ∈ ia.U → j ∉ ib.W) (hs : ∀ x y z, b ≠ .Set x y z) :
    TOk P w K mg base cf L (.Compare a [op.py] [b] pos) (.cmp op qf ia ib) := by
  intro F ρ own σ H E d ρ' bb h ht Q q
  rw [den] at h
  obtain ⟨x, ρ1, h1, h⟩ := R.bind_ok h
  obtain ⟨y, ρ2, h2, h⟩ := R.bind_ok h
  obtain ⟨hg, h⟩ := R.grd_ok h
  obtain ⟨h3, rfl⟩ := R.opt_ok h
  obtain ⟨c, h4, rfl⟩ := Option.map_eq_some_iff.mp h3
  cases ht
  refine ⟨tTest (tOp (Wo P w K mg base L (compareOp op.py)) (We P w K mg base L a) (We P w K mg base L b)), fun X hX => pt_cmpR (Wo.op hX) (We.pe hX) (We.pe hX) (mark_of hs), ?_⟩
  refine ha F ρ own σ H E x ρ1 h1 _ fun v1 P1 own1 H1 r1 => ?_
  refine hb _ ρ1 own1 σ H1 r1.env y _ h2 _ fun v2 P2 own2 H2 r2 => ?_
  obtain ⟨g1, g2, E2, p⟩ := two_frz E r1 r2 (seq_cond hq hg)
  exact cmpD_ok g1 g2 h4 ⟨_, rfl, q own2 H2 E2 p⟩
/-- a value, as a test -/
theorem ok_truth {a : Expr} {ia : E} (ha : EOk P w K mg base cf L a ia) (he : ∀ env whole, isTrue a env whole = (do let v ← whole; standAt a.pos; holding [v] (truthy v))) : TOk P w K mg base cf L a ia := by
  intro F ρ own σ H E d ρ' bb h ht Q q
  refine ⟨fun σ H Q => We P w K mg base L a σ H fun x H' => ∃ k, TruV K x H' k ∧ Q k H', fun X hX => hX.K ▸ pt_truth (We.pe (hX.K ▸ hX)) (he _), ?_⟩
  refine ha F ρ own σ H E d ρ' h _ fun v P1 own1 H1 r1 => ⟨bb, r1.rep.tru ht, q own1 H1 r1.env.F1 (r1.post.drop fun _ z => nomatch z)⟩
end
end Mn

/-! Mn I: expressions keep their readings (2): truths, displays, subscripts, built-in functions. -/
namespace Mn
open PySem L2
section
variable (P : Program) (w : World) (K : PySem.W.Frag) (mg : Str → Option Value) (base : Heap) (cf : Nat → List D → Option (D × List D))
/-- a test that may be a part of and, or -/
def WOk (L : Lx) (e : Expr) (ir : E) : Prop := ∀ (F : AP) (ρ : Env) (own : Own) (σ : L2.St) (H : Hp), EnvR K F ρ own σ H → ∀ (d : D) (ρ' : Env) (b : Bool), den cf ir ρ = .ok d ρ' → truthD d = some b → ∀ Q : Bool → Hp → Prop,
  (∀ own' H', EnvR K F ρ' own' σ H' → Post ir.W own H [] own' H' → Q b H') → Ww P w K mg base L e σ H Q
end
section
variable {P : Program} {w : World} {K : PySem.W.Frag} {mg : Str → Option Value} {base : Heap} {cf : Nat → List D → Option (D × List D)} {L : Lx}
section
variable {F : AP} {ρ ρ1 ρ2 : Env} {own own1 own2 : Own} {σ : L2.St} {H H1 H2 : Hp} {U U1 U2 W1 W2 : List Nat} {d d1 d2 : D} {v v1 v2 : V} {P1 P2 : List Addr}
theorem Res.drop (r : Res K F U1 W1 own H ρ1 σ d1 v1 P1 own1 H1) : EnvR K F ρ1 own1 σ H1 ∧ Post W1 own H [] own1 H1 := ⟨r.env.F1, r.post.drop fun _ z => nomatch z⟩
theorem Res.behind (p : Post W1 own H [] own1 H1) (r : Res K F U2 W2 own1 H1 ρ2 σ d2 v2 P2 own2 H2) : Res K F (U1 ++ U2) (W1 ++ W2) own H ρ2 σ d2 v2 P2 own2 H2 :=
  ⟨r.env, r.rep.mono (fun _ _ e _ => e) fun a _ _ q => ⟨q.1, q.2.1, fun j hj => q.2.2 j fun z => hj (List.mem_append_right _ z)⟩, r.nd, p.trans r.post⟩
theorem Res.more (r : Res K F U1 W1 own H ρ1 σ d1 v1 P1 own1 H1) : Res K F (U1 ++ U2) (W1 ++ W2) own H ρ1 σ d1 v1 P1 own1 H1 := r.mono (fun _ h => List.mem_append_left _ h) fun _ h => List.mem_append_left _ h
end
/-- shared from now on -/
theorem ok_shr {a : Expr} {ia : E} (ha : EOk P w K mg base cf L a ia) : EOk P w K mg base cf L a (.shr ia) := by
  intro F ρ own σ H E d ρ' h Q q
  rw [den] at h
  obtain ⟨x, ρ1, h1, h⟩ := R.bind_ok h
  cases h
  exact ha F ρ own σ H E x _ h1 Q fun v1 P1 own1 H1 r1 => q v1 [] own1 H1 ⟨r1.env.F1.F0', r1.frz E, List.nodup_nil, r1.post.drop fun _ z => nomatch z⟩
theorem ok_one {op : BoolOp} {a : Expr} {ia : E} {pos : Pos} (ha : EOk P w K mg base cf L a ia) : EOk P w K mg base cf L (.BoolOp op [a] pos) (.one ia) := by
  intro F ρ own σ H E d ρ' h Q q
  rw [den] at h
  refine ⟨We P w K mg base L a, fun X hX => pe_one (We.pe hX), ha F ρ own σ H E d ρ' h Q q⟩
theorem ok_and {a b : Expr} {rest : List Expr} {ia ib : E} {pos : Pos} (ha : EOk P w K mg base cf L a ia) (hb : EOk P w K mg base cf L (.BoolOp .And (b :: rest) pos) ib) : EOk P w K mg base cf L (.BoolOp .And (a :: b :: rest) pos) (.and ia ib) := by
  intro F ρ own σ H E d ρ' h Q q
  rw [den] at h
  obtain ⟨x, ρ1, h1, h⟩ := R.bind_ok h
  refine ⟨tAndT K (We P w K mg base L a) (We P w K mg base L (.BoolOp .And (b :: rest) pos)), fun X hX => by have e := hX.K; subst e; exact pe_andT (We.pe hX) (We.pe hX), ?_⟩
  refine ha F ρ own σ H E x ρ1 h1 _ fun v1 P1 own1 H1 r1 => ?_
  cases t : truthD x with
  | none => rw [t] at h; cases h
  | some c =>
    rw [t] at h
    refine ⟨c, r1.rep.tru t, ?_⟩
    cases c with
    | true =>
      obtain ⟨E1, p1⟩ := r1.drop
      exact hb F ρ1 own1 σ H1 E1 d ρ' h _ fun v2 P2 own2 H2 r2 => q v2 P2 own2 H2 (Res.behind p1 r2)
    | false =>
      cases h
      exact q v1 P1 own1 H1 r1.more
theorem ok_or {a b : Expr} {rest : List Expr} {ia ib : E} {pos : Pos} (ha : EOk P w K mg base cf L a ia) (hb : EOk P w K mg base cf L (.BoolOp .Or (b :: rest) pos) ib) : EOk P w K mg base cf L (.BoolOp .Or (a :: b :: rest) pos) (.or ia ib) := by
  intro F ρ own σ H E d ρ' h Q q
  rw [den] at h
  obtain ⟨x, ρ1, h1, h⟩ := R.bind_ok h
  refine ⟨tOrT K (We P w K mg base L a) (We P w K mg base L (.BoolOp .Or (b :: rest) pos)), fun X hX => by have e := hX.K; subst e; exact pe_orT (We.pe hX) (We.pe hX), ?_⟩
  refine ha F ρ own σ H E x ρ1 h1 _ fun v1 P1 own1 H1 r1 => ?_
  cases t : truthD x with
  | none => rw [t] at h; cases h
  | some c =>
    rw [t] at h
    refine ⟨c, r1.rep.tru t, ?_⟩
    cases c with
    | false =>
      obtain ⟨E1, p1⟩ := r1.drop
      exact hb F ρ1 own1 σ H1 E1 d ρ' h _ fun v2 P2 own2 H2 r2 => q v2 P2 own2 H2 (Res.behind p1 r2)
    | true =>
      cases h
      exact q v1 P1 own1 H1 r1.more
theorem ok_not {a : Expr} {ia : E} {pos : Pos} (ha : EOk P w K mg base cf L a ia) : EOk P w K mg base cf L (.UnaryOp .Not a pos) (.not ia) := by
  intro F ρ own σ H E d ρ' h Q q
  rw [den] at h
  obtain ⟨x, ρ1, h1, h⟩ := R.bind_ok h
  obtain ⟨h2, rfl⟩ := R.opt_ok h
  obtain ⟨c, t, rfl⟩ := Option.map_eq_some_iff.mp h2
  refine ⟨tNotT K (We P w K mg base L a), fun X hX => by have e := hX.K; subst e; exact pe_notT (We.pe hX), ?_⟩
  refine ha F ρ own σ H E x _ h1 _ fun v1 P1 own1 H1 r1 => ⟨c, r1.rep.tru t, ?_⟩
  obtain ⟨E1, p1⟩ := r1.drop
  exact q _ [] own1 H1 ⟨E1.F0', ⟨rfl, rfl⟩, List.nodup_nil, p1⟩
theorem ok_ifx {c a b : Expr} {ic ia ib : E} {pos : Pos} (hc : TOk P w K mg base cf L c ic) (ha : EOk P w K mg base cf L a ia) (hb : EOk P w K mg base cf L b ib) : EOk P w K mg base cf L (.IfExp c a b pos) (.ifx ic ia ib) := by
  intro F ρ own σ H E d ρ' h Q q
  rw [den] at h
  obtain ⟨x, ρ1, h1, h⟩ := R.bind_ok h
  refine ⟨tIf (Wt P w K mg base L c) (We P w K mg base L a) (We P w K mg base L b), fun X hX => pe_ifExp (Wt.pt hX) (We.pe hX) (We.pe hX), ?_⟩
  cases t : truthD x with
  | none => rw [t] at h; cases h
  | some k =>
    rw [t] at h
    refine hc F ρ own σ H E x ρ1 k h1 t _ fun own1 H1 E1 p1 => ?_
    cases k with
    | true => exact iteT (ha F ρ1 own1 σ H1 E1 d ρ' h _ fun v2 P2 own2 H2 r2 => q v2 P2 own2 H2 (Res.behind p1 r2.more))
    | false => exact iteF (hb F ρ1 own1 σ H1 E1 d ρ' h _ fun v2 P2 own2 H2 r2 => q v2 P2 own2 H2 (Res.behind p1 (r2.mono (fun _ z => List.mem_append_right _ z) fun _ z => List.mem_append_right _ z)))
/-! the same as tests -/
theorem okT_not {a : Expr} {ia : E} {pos : Pos} (ha : TOk P w K mg base cf L a ia) : TOk P w K mg base cf L (.UnaryOp .Not a pos) (.not ia) := by
  intro F ρ own σ H E d ρ' bb h ht Q q
  rw [den] at h
  obtain ⟨x, ρ1, h1, h⟩ := R.bind_ok h
  obtain ⟨h2, rfl⟩ := R.opt_ok h
  obtain ⟨c, t, rfl⟩ := Option.map_eq_some_iff.mp h2
  cases ht
  exact ⟨tNot (Wt P w K mg base L a), fun X hX => pt_not (Wt.pt hX), ha F ρ own σ H E x _ c h1 t _ fun own1 H1 E1 p1 => q own1 H1 E1 p1⟩
theorem okW_one {op : BoolOp} {a : Expr} {ia : E} {pos : Pos} (ha : TOk P w K mg base cf L a ia) : WOk P w K mg base cf L (.BoolOp op [a] pos) (.one ia) := by
  intro F ρ own σ H E d ρ' bb h ht Q q
  rw [den] at h
  refine ⟨Wt P w K mg base L a, fun X hX => ?_, ha F ρ own σ H E d ρ' bb h ht Q q⟩
  cases op with
  | And => exact pw_and1 (Wt.pt hX)
  | Or => exact pw_or1 (Wt.pt hX)
theorem okW_and {a b : Expr} {rest : List Expr} {ia ib : E} {pos : Pos} (ha : TOk P w K mg base cf L a ia) (hb : WOk P w K mg base cf L (.BoolOp .And (b :: rest) pos) ib) : WOk P w K mg base cf L (.BoolOp .And (a :: b :: rest) pos) (.and ia ib) := by
  intro F ρ own σ H E d ρ' bb h ht Q q
  rw [den] at h
  obtain ⟨x, ρ1, h1, h⟩ := R.bind_ok h
  refine ⟨tAnd (Wt P w K mg base L a) (Ww P w K mg base L (.BoolOp .And (b :: rest) pos)), fun X hX => pw_and (Wt.pt hX) (Ww.pw hX), ?_⟩
  cases t : truthD x with
  | none => rw [t] at h; cases h
  | some k =>
    rw [t] at h
    refine ha F ρ own σ H E x ρ1 k h1 t _ fun own1 H1 E1 p1 => ?_
    cases k with
    | true => exact iteT (hb F ρ1 own1 σ H1 E1 d ρ' bb h ht _ fun own2 H2 E2 p2 => q own2 H2 E2 (p1.trans p2))
    | false =>
      cases h
      rw [t] at ht
      cases ht
      exact iteF (q own1 H1 E1 (p1.mono fun _ z => List.mem_append_left _ z))
theorem okW_or {a b : Expr} {rest : List Expr} {ia ib : E} {pos : Pos} (ha : TOk P w K mg base cf L a ia) (hb : WOk P w K mg base cf L (.BoolOp .Or (b :: rest) pos) ib) : WOk P w K mg base cf L (.BoolOp .Or (a :: b :: rest) pos) (.or ia ib) := by
  intro F ρ own σ H E d ρ' bb h ht Q q
  rw [den] at h
  obtain ⟨x, ρ1, h1, h⟩ := R.bind_ok h
  refine ⟨tOr (Wt P w K mg base L a) (Ww P w K mg base L (.BoolOp .Or (b :: rest) pos)), fun X hX => pw_or (Wt.pt hX) (Ww.pw hX), ?_⟩
  cases t : truthD x with
  | none => rw [t] at h; cases h
  | some k =>
    rw [t] at h
    refine ha F ρ own σ H E x ρ1 k h1 t _ fun own1 H1 E1 p1 => ?_
    cases k with
    | false => exact iteF (hb F ρ1 own1 σ H1 E1 d ρ' bb h ht _ fun own2 H2 E2 p2 => q own2 H2 E2 (p1.trans p2))
    | true =>
      cases h
      rw [t] at ht
      cases ht
      exact iteT (q own1 H1 E1 (p1.mono fun _ z => List.mem_append_left _ z))
theorem okT_of {e : Expr} {ie : E} (h : WOk P w K mg base cf L e ie) : TOk P w K mg base cf L e ie := fun F ρ own σ H E d ρ' b h1 h2 Q q =>
  ⟨Ww P w K mg base L e, fun X hX => PW.pt (Ww.pw hX), h F ρ own σ H E d ρ' b h1 h2 Q q⟩
/-! chains -/
theorem Rp.fl {d : D} {v : V} {P : List Addr} {H H' : Hp} {A A' : AP} (h : Rp K H A d v P) (f : Mn.flat d = true) : P = [] ∧ Rp K H' A' d v [] := by
  cases d <;> first | (cases f; done) | skip
  · exact ⟨h.2, h.1, rfl⟩
  · exact ⟨h.2, h.1, rfl⟩
  · exact ⟨h.2, h.1, rfl⟩
  · exact ⟨h.2.1, h.1, rfl, h.2.2⟩
theorem frz_flat {d : D} (f : Mn.flat d = true) : frz d = d := by
  cases d <;> first | (cases f; done) | rfl
def tChn (L : Lx) (P : Program) (w : World) (K : PySem.W.Frag) (mg : Str → Option Value) (base : Heap) (o1 o2 : COp) (a b c : Expr) : TE := tChain (Wo P w K mg base L (compareOp o1.py)) (Wo P w K mg base L (compareOp o2.py)) (We P w K mg base L a) (We P w K mg base L b) (We P w K mg base L c)
theorem chain_core {o1 o2 : COp} {q1 q2 : Bool} {a b c : Expr} {ia ib ic : E} (ha : EOk P w K mg base cf L a ia) (hb : EOk P w K mg base cf L b ib) (hc : EOk P w K mg base cf L c ic)
    (hq1 : q1 = true → ∀ j, j ∈ ia.U → j ∉ ib.W) {F : AP} {ρ : Env} {own : Own} {σ : L2.St} {H : Hp} (E : EnvR K F ρ own σ H) {d : D} {ρ' : Env} (h : den cf (.chn o1 o2 q1 q2 ia ib ic) ρ = .ok d ρ') {Q : VK}
    (q : ∀ k own' H', d = .bl k → EnvR K F ρ' own' σ H' → Post (ia.W ++ (ib.W ++ ic.W)) own H [] own' H' → Q (.bl k) H') : tChn L P w K mg base o1 o2 a b c σ H Q := by
  rw [den] at h
  obtain ⟨x, ρ1, h1, h⟩ := R.bind_ok h
  obtain ⟨y, ρ2, h2, h⟩ := R.bind_ok h
  obtain ⟨hg0, h⟩ := R.grd_ok h
  obtain ⟨hg, hy⟩ := (Bool.and_eq_true _ _).mp hg0
  refine ha F ρ own σ H E x ρ1 h1 _ fun v1 P1 own1 H1 r1 => ?_
  refine hb _ ρ1 own1 σ H1 r1.env y _ h2 _ fun v2 P2 own2 H2 r2 => ?_
  obtain ⟨g1, g2, E2, p⟩ := two_frz E r1 r2 (seq_cond hq1 hg)
  rw [frz_flat hy] at g2
  cases t : cmpD o1 (frz x) y with
  | none => rw [t] at h; cases h
  | some k =>
    rw [t] at h
    refine cmpD_ok g1 g2 t ⟨k, rfl, ?_⟩
    cases k with
    | false =>
      cases h
      exact iteF (q false own2 H2 rfl E2 (p.mono fun j hj => (List.mem_append.mp hj).elim (fun z => List.mem_append_left _ z) fun z => List.mem_append_right _ (List.mem_append_left _ z)))
    | true =>
      obtain ⟨z, ρ3, h3, h⟩ := R.bind_ok h
      obtain ⟨h4, rfl⟩ := R.opt_ok h
      obtain ⟨k2, h5, rfl⟩ := Option.map_eq_some_iff.mp h4
      refine iteT ?_
      refine hc F ρ2 own2 σ H2 E2 z _ h3 _ fun v3 P3 own3 H3 r3 => ?_
      refine cmpD_ok (g2.fl hy).2 (r3.frz E2) h5 ?_
      obtain ⟨E3, p3⟩ := r3.drop
      exact q k2 own3 H3 rfl E3 ((p.trans p3).mono fun j hj => by rw [List.append_assoc] at hj; exact hj)
theorem ok_chn {o1 o2 : COp} {q1 q2 : Bool} {a b c : Expr} {ia ib ic : E} {pos : Pos} (ha : EOk P w K mg base cf L a ia) (hb : EOk P w K mg base cf L b ib) (hc : EOk P w K mg base cf L c ic)
    (hq1 : q1 = true → ∀ j, j ∈ ia.U → j ∉ ib.W) (hm : lastMarks [o1.py, o2.py] [b, c] = false) : EOk P w K mg base cf L (.Compare a [o1.py, o2.py] [b, c] pos) (.chn o1 o2 q1 q2 ia ib ic) := fun F ρ own σ H E d ρ' h Q q =>
  ⟨tChn L P w K mg base o1 o2 a b c, fun X hX => pe_chain (Wo.op hX) (Wo.op hX) (We.pe hX) (We.pe hX) (We.pe hX) hm, chain_core ha hb hc hq1 E h fun k own' H' e E' p => q _ [] own' H' ⟨E'.F0', by rw [e]; exact ⟨rfl, rfl⟩, List.nodup_nil, p⟩⟩
theorem okT_chn {o1 o2 : COp} {q1 q2 : Bool} {a b c : Expr} {ia ib ic : E} {pos : Pos} (ha : EOk P w K mg base cf L a ia) (hb : EOk P w K mg base cf L b ib) (hc : EOk P w K mg base cf L c ic)
    (hq1 : q1 = true → ∀ j, j ∈ ia.U → j ∉ ib.W) (hm : lastMarks [o1.py, o2.py] [b, c] = false) : TOk P w K mg base cf L (.Compare a [o1.py, o2.py] [b, c] pos) (.chn o1 o2 q1 q2 ia ib ic) := fun F ρ own σ H E d ρ' bb h ht Q q =>
  ⟨tTest (tChn L P w K mg base o1 o2 a b c), fun X hX => pt_chain (Wo.op hX) (Wo.op hX) (We.pe hX) (We.pe hX) (We.pe hX) hm, chain_core ha hb hc hq1 E h fun k own' H' e E' p => by subst e; cases ht; exact ⟨_, rfl, q own' H' E' p⟩⟩
/-! arguments -/
def AI (K : PySem.W.Frag) (H : Hp) (A : AP) (ρ' : Env) (σ : L2.St) : Es → List D → List V → List Addr → Prop
  | .nil, ds, vs, P => ds = [] ∧ vs = [] ∧ P = []
  | .cons _ _ es, ds, vs, P => ∃ d dr v vr P1 P2, ds = d :: dr ∧ vs = v :: vr ∧ P = P1 ++ P2 ∧ Rp K H A d v P1 ∧ AI K H A ρ' σ es dr vr P2
  | .io i es, ds, vs, P => ∃ d dr v vr, ds = d :: dr ∧ vs = v :: vr ∧ getS ρ' i = some d ∧ σ[i]? = some (some v) ∧ AI K H A ρ' σ es dr vr P
theorem AI.mono {H : Hp} {A A' : AP} {ρ' : Env} {σ : L2.St} : ∀ {es : Es} {ds : List D} {vs : List V} {P : List Addr}, AI K H A ρ' σ es ds vs P → (∀ a o, H a = some o → A a → A' a) → AI K H A' ρ' σ es ds vs P
  | .nil, ds, vs, P, h, _ => h
  | .cons _ _ es, ds, vs, P, ⟨d, dr, v, vr, P1, P2, e1, e2, e3, h1, h2⟩, ha => ⟨d, dr, v, vr, P1, P2, e1, e2, e3, h1.mono (fun _ _ e _ => e) ha, AI.mono h2 ha⟩
  | .io i es, ds, vs, P, ⟨d, dr, v, vr, e1, e2, h1, h2, h3⟩, ha => ⟨d, dr, v, vr, e1, e2, h1, h2, AI.mono h3 ha⟩
theorem AI.rps {H : Hp} {A : AP} {ρ' : Env} {σ : L2.St} : ∀ {es : Es} {ds : List D} {vs : List V} {P : List Addr}, AI K H A ρ' σ es ds vs P → es.ios = [] → Rps K H A ds vs P
  | .nil, ds, vs, P, ⟨e1, e2, e3⟩, _ => by rw [e1]; exact ⟨e2, e3⟩
  | .cons _ _ es, ds, vs, P, ⟨d, dr, v, vr, P1, P2, e1, e2, e3, h1, h2⟩, hi => by rw [e1]; exact ⟨v, vr, P1, P2, e2, e3, h1, AI.rps h2 hi⟩
  | .io i es, ds, vs, P, _, hi => by cases hi
structure ResI (K : PySem.W.Frag) (F : AP) (es : Es) (own : Own) (H : Hp) (ρ' : Env) (σ : L2.St) (ds : List D) (vs : List V) (P : List Addr) (own' : Own) (H' : Hp) : Prop where
  env : EnvR K (FP F P) ρ' own' σ H'
  rep : AI K H' (AV F es.U own' P) ρ' σ es ds vs P
  nd : P.Nodup
  post : Post es.W own H P own' H'
theorem ResI.F_of {F : AP} {es : Es} {own own1 : Own} {H H1 : Hp} {ρ ρ' : Env} {σ : L2.St} {ds : List D} {vs : List V} {P : List Addr} (r : ResI K F es own H ρ' σ ds vs P own1 H1) (E : EnvR K F ρ own σ H) : ∀ b, b ∈ P → ¬ F b := fun b hb z => by
  rcases r.post.frP b hb with q | ⟨j, _, q⟩
  · exact E.fa b z q
  · exact E.fr j b q z
end
section
variable (P : Program) (w : World) (K : PySem.W.Frag) (mg : Str → Option Value) (base : Heap) (cf : Nat → List D → Option (D × List D))
def EsOk (L : Lx) (es : List Expr) (ies : Es) : Prop := ∀ (F : AP) (ρ : Env) (own : Own) (σ : L2.St) (H : Hp), EnvR K F ρ own σ H → ∀ (ds : List D) (ρ' : Env), denEs cf ies ρ = .ok ds ρ' → ∀ Q : List V → Hp → Prop,
  (∀ vs P' own' H', ResI K F ies own H ρ' σ ds vs P' own' H' → Q vs H') → Wa P w K mg base L es σ H Q
end
section
variable {P : Program} {w : World} {K : PySem.W.Frag} {mg : Str → Option Value} {base : Heap} {cf : Nat → List D → Option (D × List D)} {L : Lx}
theorem oks_nil : EsOk P w K mg base cf L [] .nil := by
  intro F ρ own σ H E ds ρ' h Q q
  rw [denEs] at h
  cases h
  exact ⟨tNil, fun X _ => pa_nil, q [] [] own H ⟨E.F0', ⟨rfl, rfl, rfl⟩, List.nodup_nil, Post.refl⟩⟩
theorem star_of {e : Expr} {es : List Expr} {env : PySem.Env} (h : ∀ a p, e ≠ .Starred a p) : starEach (e :: es) env = (false, eval e env) :: starEach es env := by
  cases e <;> first | rfl | exact absurd rfl (h _ _)
theorem oks_cons {qf : Bool} {e : Expr} {es : List Expr} {ie : E} {ies : Es} (he : EOk P w K mg base cf L e ie) (hes : EsOk P w K mg base cf L es ies) (hq : qf = true → ∀ j, j ∈ ie.U → j ∉ ies.W) (hs : ∀ a p, e ≠ .Starred a p) :
    EsOk P w K mg base cf L (e :: es) (.cons qf ie ies) := by
  intro F ρ own σ H E ds ρ' h Q q
  rw [denEs] at h
  obtain ⟨x, ρ1, h1, h⟩ := R.bind_ok h
  obtain ⟨xs, ρ2, h2, h⟩ := R.bind_ok h
  obtain ⟨hg, h⟩ := R.grd_ok h
  cases h
  refine ⟨tCons (We P w K mg base L e) (Wa P w K mg base L es), fun X hX => pa_cons (We.pe hX) (Wa.pa hX) (star_of hs), ?_⟩
  refine he F ρ own σ H E x ρ1 h1 _ fun v1 P1 own1 H1 r1 => ?_
  refine hes _ ρ1 own1 σ H1 r1.env xs _ h2 _ fun vs P2 own2 H2 r2 => ?_
  have h12 : ∀ b, b ∈ P2 → b ∉ P1 := fun b hb z => (r2.F_of r1.env b hb) (.inr z)
  refine q (v1 :: vs) (P1 ++ P2) own2 H2 ⟨r2.env.less fun b z => z.elim (fun z => .inl (.inl z)) fun z => (List.mem_append.mp z).elim (fun z => .inl (.inr z)) .inr, ⟨x, xs, v1, vs, P1, P2, rfl, rfl, rfl, ?_, ?_⟩, ?_, r1.post.trans r2.post⟩
  · exact r1.rep.over r1.env r2.post (seq_cond hq hg) fun j hj => List.mem_append_left _ hj
  · exact r2.rep.mono fun a o e q => ⟨fun z => q.1 (.inl z), fun z => (List.mem_append.mp z).elim (fun z => q.1 (.inr z)) q.2.1, fun j hj => q.2.2 j fun z => hj (List.mem_append_right _ z)⟩
  · exact List.nodup_append.mpr ⟨r1.nd, r2.nd, fun a ha b hb e => h12 b hb (e ▸ ha)⟩
theorem oks_io {i : Nat} {x : Str} {pos : Pos} {es : List Expr} {ies : Es} (hN : L.N[i]? = some x) (hv : Vis L.sc x) (hd : (x == ("__debug__" : Str)) = false) (hcd : (x == ("__classdict__" : Str)) = false) (hes : EsOk P w K mg base cf L es ies) :
    EsOk P w K mg base cf L (.Name x pos :: es) (.io i ies) := by
  intro F ρ own σ H E ds ρ' h Q q
  rw [denEs] at h
  obtain ⟨hg, h⟩ := R.grd_ok h
  obtain ⟨xs, ρ1, h1, h⟩ := R.bind_ok h
  obtain ⟨h2, rfl⟩ := R.opt_ok h
  obtain ⟨d, h3, rfl⟩ := Option.map_eq_some_iff.mp h2
  obtain ⟨d0, h0⟩ := Option.isSome_iff_exists.mp hg
  obtain ⟨v, e1, _⟩ := E.rep i d0 (getS_some h0)
  refine ⟨tCons (tVar i) (Wa P w K mg base L es), fun X hX => pa_cons (pe_var (by rw [hX.N]; exact hN) (by rw [hX.sc]; exact hv) hd hcd) (Wa.pa hX) rfl, v, e1, ?_⟩
  refine hes F ρ own σ H E xs _ h1 _ fun vs P2 own2 H2 r2 => ?_
  exact q (v :: vs) P2 own2 H2 ⟨r2.env, ⟨d, xs, v, vs, rfl, rfl, h3, e1, r2.rep⟩, r2.nd, r2.post.mono fun j hj => List.mem_cons_of_mem _ hj⟩
theorem ok_tup {es : List Expr} {ies : Es} {k : Nat} {pos : Pos} (h : EsOk P w K mg base cf L es ies) (hi : ies.ios = []) : EOk P w K mg base cf L (.Tuple es k pos) (.tup ies) := by
  intro F ρ own σ H E d ρ' h' Q q
  rw [den] at h'
  obtain ⟨xs, ρ1, h1, h'⟩ := R.bind_ok h'
  obtain ⟨hg, h'⟩ := R.grd_ok h'
  cases h'
  refine ⟨tTup (Wa P w K mg base L es), fun X hX => pe_tup (Wa.pa hX), h F ρ own σ H E xs _ h1 _ fun vs P1 own1 H1 r => ?_⟩
  have rr := r.rep.rps hi
  refine ⟨by rw [rr.length]; exact of_decide_eq_true hg, fun p hp => q _ P1 own1 _ ⟨?_, ⟨p, vs, rfl, SqT.of upd_same, ?_⟩, r.nd, ?_⟩⟩
  · exact (r.env.ext (P := []) (Ext.new hp) (fun _ z => nomatch z) fun _ z => nomatch z).F0
  · exact rr.mono (fun b o e _ => Ext.new hp b o e) fun _ _ _ z => z
  · exact ⟨fun b o e n => Ext.new hp b o (r.post.keep b o e n), fun b e => by
      have := r.post.there b e
      cases e2 : H1 b with
      | none => exact absurd e2 this
      | some o => rw [Ext.new hp b o e2]; simp, r.post.frP, r.post.frO⟩
theorem ok_lst {es : List Expr} {ies : Es} {pos : Pos} (h : EsOk P w K mg base cf L es ies) (hi : ies.ios = []) : EOk P w K mg base cf L (.List es pos) (.lst ies) := by
  intro F ρ own σ H E d ρ' h' Q q
  rw [den] at h'
  obtain ⟨xs, ρ1, h1, h'⟩ := R.bind_ok h'
  obtain ⟨hg, h'⟩ := R.grd_ok h'
  cases h'
  refine ⟨tLst (Wa P w K mg base L es), fun X hX => pe_lst (Wa.pa hX), h F ρ own σ H E xs _ h1 _ fun vs P1 own1 H1 r => ?_⟩
  have rr := r.rep.rps hi
  refine ⟨by rw [rr.length]; exact of_decide_eq_true hg, fun p hp => ?_⟩
  have hpP : p ∉ P1 := fun z => by
    obtain ⟨o, e, _⟩ := rr.there p z
    rw [hp] at e; cases e
  have hpH : H p = none := by
    cases e : H p with
    | none => rfl
    | some o => exact absurd hp (r.post.there p (by rw [e]; simp))
  refine q _ (p :: P1) own1 _ ⟨?_, ⟨p, vs, P1, rfl, upd_same, rfl, ?_⟩, List.nodup_cons.mpr ⟨hpP, r.nd⟩, ?_⟩
  · exact (r.env.ext (P := [p]) (Ext.new hp) (fun b z => by rw [List.mem_singleton.mp z]; exact hp) fun b z => by rw [List.mem_singleton.mp z, upd_same]; simp).less fun b z => z.elim (fun z => .inl (.inl z)) fun z => (List.mem_cons.mp z).elim (fun z => .inr (List.mem_singleton.mpr z)) fun z => .inl (.inr z)
  · exact rr.mono (fun b o e _ => Ext.new hp b o e) fun a o e z => ⟨z.1, fun y => (List.mem_cons.mp y).elim (fun y => by rw [y, hp] at e; cases e) z.2.1, z.2.2⟩
  · exact ⟨fun b o e n => Ext.new hp b o (r.post.keep b o e n), fun b e => by
      have := r.post.there b e
      cases e2 : H1 b with
      | none => exact absurd e2 this
      | some o => rw [Ext.new hp b o e2]; simp, fun b hb => (List.mem_cons.mp hb).elim (fun z => .inl (by rw [z]; exact hpH)) (r.post.frP b), r.post.frO⟩
/-! subscripts -/
theorem plainIx_of {b : Expr} (h : ∀ l u st p, b ≠ .Slice l u st p) : PlainIx b := fun o i => by
  cases b <;> first | rfl | exact absurd rfl (h _ _ _ _)
theorem ok_ix {qf : Bool} {a b : Expr} {ia ib : E} {pos : Pos} (ha : EOk P w K mg base cf L a ia) (hb : EOk P w K mg base cf L b ib) (hq : qf = true → ∀ j, j ∈ ia.U → j ∉ ib.W) (hs : ∀ l u st p, b ≠ .Slice l u st p) : EOk P w K mg base cf L (.Subscript a b pos) (.ix qf ia ib) := by
  intro F ρ own σ H E d ρ' h Q q
  rw [den] at h
  obtain ⟨x, ρ1, h1, h⟩ := R.bind_ok h
  obtain ⟨y, ρ2, h2, h⟩ := R.bind_ok h
  obtain ⟨hg, h⟩ := R.grd_ok h
  obtain ⟨h3, rfl⟩ := R.opt_ok h
  have fin : ∀ {own2 : Own} {H2 : Hp}, EnvR K F _ own2 σ H2 → Post (ia.W ++ ib.W) own H [] own2 H2 → ∀ v, Rp K H2 (AV F (ia.U ++ ib.U) own2 []) d v [] → Q v H2 := fun E2 p v r => q v [] _ _ ⟨E2.F0', r, List.nodup_nil, p⟩
  by_cases hd : ∃ o ks xs, frz x = .dk o ks xs
  · obtain ⟨o, ks, xs, hd⟩ := hd
    refine ⟨tDGet (We P w K mg base L a) (We P w K mg base L b), fun X hX => pe_dget hX.u1 (We.pe hX) (We.pe hX) (fun _ _ => plainIx_of hs _ _), ?_⟩
    refine ha F ρ own σ H E x ρ1 h1 _ fun v1 P1 own1 H1 r1 => ?_
    refine hb _ ρ1 own1 σ H1 r1.env y _ h2 _ fun v2 P2 own2 H2 r2 => ?_
    obtain ⟨g1, g2, E2, p⟩ := two_frz E r1 r2 (seq_cond hq hg)
    rw [hd] at g1 h3
    obtain ⟨aa, vs, rfl, hs1, hl, rr⟩ := g1.dk0
    obtain ⟨k, hk, h4⟩ := Option.bind_eq_some_iff.mp (show (keyD (frz y)).bind (fun k => getK k ks xs) = some d from h3)
    rcases valV_zip (k := k) rr hl with ⟨e1, _⟩ | ⟨d', v, e1, e2, r⟩
    · rw [e1] at h4; cases h4
    · rw [e1] at h4
      cases h4
      refine ⟨aa, v, rfl, .inl ⟨_, k, .inl hs1, kV_keyD g2 hk, e2.symm⟩, fin E2 p v r⟩
  · refine ⟨tOp (Wx P w K mg base L) (We P w K mg base L a) (We P w K mg base L b), fun X hX => pe_ix (Wx.ix hX) (We.pe hX) (We.pe hX) (plainIx_of hs), ?_⟩
    refine ha F ρ own σ H E x ρ1 h1 _ fun v1 P1 own1 H1 r1 => ?_
    refine hb _ ρ1 own1 σ H1 r1.env y _ h2 _ fun v2 P2 own2 H2 r2 => ?_
    obtain ⟨g1, g2, E2, p⟩ := two_frz E r1 r2 (seq_cond hq hg)
    exact ixD_ok g1 g2 (fun o ks xs e => hd ⟨o, ks, xs, e⟩) h3 (fin E2 p)
/-! built-in functions -/
def BI.isTy : BI → Bool
  | .int | .list | .tuple | .str => true
  | _ => false
theorem ok_bi {b : BI} {e : Expr} {es : List Expr} {ies : Es} {p pos : Pos} (h : EsOk P w K mg base cf L (e :: es) ies) (hi : ies.ios = []) (hg : L.sc.names.lookup (Str.ofString b.name) = some .globalImplicit) (hm : mg (Str.ofString b.name) = none)
    (hb : bootBuiltins (Str.ofString b.name) = some b.val) (hn : Str.ofString b.name ≠ "__name__") (hdb : (Str.ofString b.name == ("__debug__" : Str)) = false) (hst : ∀ a ∈ e :: es, ∀ x p, a ≠ .Starred x p) : EOk P w K mg base cf L (.Call (.Name (Str.ofString b.name) p) (e :: es) [] pos) (.bi b ies) := by
  intro F ρ own σ H E d ρ' h' Q q
  rw [den] at h'
  obtain ⟨xs, ρ1, h1, h'⟩ := R.bind_ok h'
  obtain ⟨h2, rfl⟩ := R.opt_ok h'
  have he : ∀ env, starEach (e :: es) env = (false, eval e env) :: starEach es env := fun env => star_of (hst e List.mem_cons_self)
  have hpl : ∀ env, (backTo pos (starEach es env)).any (·.1) = false := fun env => by
    have : ∀ l : List Expr, (∀ a ∈ l, ∀ x p, a ≠ .Starred x p) → (backTo pos (starEach l env)).any (·.1) = false := by
      intro l
      induction l with
      | nil => intro _; rfl
      | cons a l ih =>
        intro hl
        rw [star_of (hl a List.mem_cons_self)]
        exact ih fun c hc => hl c (List.mem_cons_of_mem _ hc)
    exact this es fun a ha => hst a (List.mem_cons_of_mem _ ha)
  refine ⟨tCB (Wc P w K mg base L b.val) (Wa P w K mg base L (e :: es)), fun X hX => ?_, ?_⟩
  · have h1 : ∀ id, b.val = .builtin id → PE X (.Call (.Name (Str.ofString b.name) p) (e :: es) [] pos) (tCB (Wc P w K mg base L b.val) (Wa P w K mg base L (e :: es))) := fun id hv =>
      pe_callB (hv ▸ Wc.call hX) (gl_of hX hg) (by rw [hX.mg]; exact hm) (hb.trans (congrArg some hv)) (Wa.pa hX) hn hdb (he _) (hpl _)
    have h2 : ∀ id, b.val = .type id → PE X (.Call (.Name (Str.ofString b.name) p) (e :: es) [] pos) (tCB (Wc P w K mg base L b.val) (Wa P w K mg base L (e :: es))) := fun id hv =>
      pe_callTy (hv ▸ Wc.call hX) (gl_of hX hg) (by rw [hX.mg]; exact hm) (hb.trans (congrArg some hv)) (Wa.pa hX) hn hdb (he _) (hpl _)
    cases b <;> first | exact h1 _ rfl | exact h2 _ rfl
  · refine h F ρ own σ H E xs _ h1 _ fun vs P1 own1 H1 r => ?_
    have rr := r.rep.rps hi
    have fr : Rps K H1 (AV F ies.U own1 []) (frzs xs) vs [] := rr.frz fun a o e q => q.elim (fun q => ⟨q.1, fun z => (nomatch z), q.2.2⟩) fun q => ⟨r.F_of E a q, fun z => (nomatch z), fun j _ z => r.env.fr j a z (.inr q)⟩
    exact biD_ok fr h2 (Made.res r.env.F1 (r.post.drop fun _ z => nomatch z) q)
end
end Mn

/-! Mn J: calls of defs. -/
namespace Mn
open PySem L2
/-- as FnOk, run where no text of an object is under way -/
structure FnG (P : Program) (w : World) (K : PySem.W.Frag) (mg : Str → Option Value) (base : Heap) (k : Nat) (f : Addr) (fd : FuncData) (ps : List Str) (sp : Sp) : Prop where
  len : ∀ vs H Q E, sp vs H Q E → vs.length = ps.length
  run : ∀ (A : Around) (outer : List PySem.Env) (s : Shared) (H : Hp) (args : Args) (us : List Value) (vs : List V) (Q : VK) (E : XK), Room k A → A.guards = some [] → Env0 P w K mg base A outer s H → BindsTo s fd args (ps.zip us) → Vals vs us →
    sp vs H Q E → codeAny (model P w) A (.call (.ref f) args) (CR CX0 outer P w H s Q E) s
theorem run_G {X : Cx} {pins : List (Addr × Obj)} {σ : L2.St} {H : Hp} {s : Shared} {Q : VK} {us ds : List Value} {vs dvs : List V} {k : Nat} {f : Addr} {fd : FuncData} {ps : List Str} {sp : Sp}
    (F : FnG X.prog X.w X.K X.mg X.base k f fd ps sp) (room : Room k X.A) (gd : X.A.guards = some []) (bnd : Binds X.K fd ps ds) (dv : Vals dvs ds) (I : Inv X pins σ H s) (rv : Vals vs us) (hsp : sp (vs ++ dvs) H Q E0) :
    wpAny (model X.prog X.w) X.A (call (.ref f) us) (EP X pins σ Q) X.xe s := by
  have both : Vals (vs ++ dvs) (us ++ ds) := rv.append dv
  have lens : (us ++ ds).length = ps.length := by rw [← both.length]; exact F.len _ _ _ _ hsp
  have run := F.run X.A X.stack s H ⟨us, []⟩ (us ++ ds) (vs ++ dvs) Q E0 room gd I.env0 (bnd s us I.kIn lens) both hsp
  refine wpAny_call (codeAny_mono run fun res s' out => ?_)
  match res, out with
  | .ok (.ret _), out => exact I.after out
  | .ok .next, out => exact (show False from out).elim
  | .ok .brk, out => exact (show False from out).elim
  | .ok .cont, out => exact (show False from out).elim
  | .error _, out => exact (show False from out).elim
section
variable {X : Cx} {k : Nat} {f : Addr} {fd : FuncData} {ps : List Str} {sp : Sp} {dvs : List V} {ds : List Value} {x : Str} {p pos : Pos} {e : Expr} {es : List Expr} {t : TA}
theorem pe_callG (F : FnG X.prog X.w X.K X.mg X.base k f fd ps sp) (room : Room k X.A) (gd : X.A.guards = some []) (gl : Gl X x) (mgx : X.mg x = some (.ref f)) (keep : PySem.W.keepIn X.K (.ref f) = true) (bnd : Binds X.K fd ps ds) (dv : Vals dvs ds)
    (ha : PA X (e :: es) t) (ndb : (x == ("__debug__" : Str)) = false) (st : starEach (e :: es) X.env = (false, eval e X.env) :: starEach es X.env) (pl : (backTo pos (starEach es X.env)).any (·.1) = false) :
    PE X (.Call (.Name x p) (e :: es) [] pos) (tCall sp dvs E0 t) where
  run := fun pins s σ H Q I h => wpAny_Call_Name_kw (ld_glob I gl mgx (PySem.W.callWith_K (h₀ := X.base) I.ok.mod.kin keep
    (thn (ha.run pos pins s σ H _ I h) fun _ _ ⟨_, _, I1, r, q⟩ => ⟨I1.kIn, run_G F room gd bnd dv I1 r q⟩) st pl) ndb)
theorem pe_callG0 (F : FnG X.prog X.w X.K X.mg X.base k f fd ps sp) (room : Room k X.A) (gd : X.A.guards = some []) (gl : Gl X x) (mgx : X.mg x = some (.ref f)) (keep : PySem.W.keepIn X.K (.ref f) = true) (bnd : Binds X.K fd ps ds) (dv : Vals dvs ds)
    (ndb : (x == ("__debug__" : Str)) = false) : PE X (.Call (.Name x p) [] [] pos) (tCall sp dvs E0 tNil) where
  run := fun pins s σ H Q I h => wpAny_Call_Name_kw (ld_glob I gl mgx (PySem.W.callWith_K0 I.kIn keep (run_G (us := []) F room gd bnd dv I .nil h)) ndb)
end
def vOf : D → V
  | .bl b => .bl b
  | .int i => .int i
  | .str s => .str s
  | _ => .non
/-- what a def promises: what the small language computes -/
def spF (K : PySem.W.Frag) (cf : Nat → List D → Option (D × List D)) (i : Nat) (f : Fn) : Sp := fun vs H Q _ => vs.length = f.ps.length ∧ ∃ (F : AP) (own : Own) (ds : List D) (d : D) (os : List D), EnvR K F (ds.map some) own (vs.map some) H ∧ cf i ds = some (d, os) ∧
  ∀ v P own' H' ρ', EnvR K (FP F P) ρ' own' (vs.map some) H' → getIos ρ' f.io = some os → (∀ j, j ∉ f.io → own' j = []) → Rp K H' (AV F [] own' P) d v P → P.Nodup → Post (List.range vs.length) own H P own' H' → Q v H'
/-- the ways in which a def is called with keywords -/
def KwOk (K : PySem.W.Frag) (fd : FuncData) (f : Fn) : Prop := ∀ q, q ∈ f.kws → ∃ g, KBn K fd f.ps q.1 q.2.1 g fun vs zs => arrL q.2.2 (f.dfl.map vOf) (vs ++ zs)
structure CallOk (P : Program) (w : World) (K : PySem.W.Frag) (mg : Str → Option Value) (base : Heap) (cf : Nat → List D → Option (D × List D)) (k i : Nat) (f : Fn) : Prop where
  fn : ∃ fa fd, mg f.name = some (.ref fa) ∧ PySem.W.keepIn K (.ref fa) = true ∧ FnG P w K mg base k fa fd f.ps (spF K cf i f) ∧ (∀ n, n ≤ f.dfl.length → ∃ ds, Vals ((f.dfl.drop (f.dfl.length - n)).map vOf) ds ∧ Binds K fd f.ps ds) ∧ KwOk K fd f
  dfl : ∀ ds r, cf i ds = some r → ds.length ≤ f.ps.length ∧ f.ps.length ≤ ds.length + f.dfl.length ∧ cf i (ds ++ f.dfl.drop (f.dfl.length - (f.ps.length - ds.length))) = some r
  flat : f.dfl.all Mn.flat = true
def Es.ioPos : Es → Nat → List Nat
  | .nil, _ => []
  | .cons _ _ es, n => es.ioPos (n + 1)
  | .io _ es, n => n :: es.ioPos (n + 1)
section
variable {K : PySem.W.Frag}
/-- values one by one, each with its own nodes -/
inductive Al (K : PySem.W.Frag) (H : Hp) (A : AP) : List D → List V → List (List Addr) → Prop
  | nil : Al K H A [] [] []
  | cons {d : D} {v : V} {P : List Addr} {ds : List D} {vs : List V} {Ps : List (List Addr)} : Rp K H A d v P → Al K H A ds vs Ps → Al K H A (d :: ds) (v :: vs) (P :: Ps)
variable {H : Hp} {A A' : AP}
theorem Al.get : ∀ {ds : List D} {vs : List V} {Ps : List (List Addr)} {j : Nat} {d : D}, Al K H A ds vs Ps → ds[j]? = some d → ∃ v P, vs[j]? = some v ∧ Ps[j]? = some P ∧ Rp K H A d v P
  | _, _, _, _, _, .nil, e => by simp at e
  | _, _, _, 0, _, .cons r _, e => by simp at e; subst e; exact ⟨_, _, rfl, rfl, r⟩
  | _, _, _, j + 1, _, .cons _ t, e => by
    obtain ⟨v, P, h1, h2, h3⟩ := Al.get (j := j) t (by simpa using e)
    exact ⟨v, P, by simpa using h1, by simpa using h2, h3⟩
theorem Al.lens : ∀ {ds : List D} {vs : List V} {Ps : List (List Addr)}, Al K H A ds vs Ps → vs.length = ds.length ∧ Ps.length = ds.length
  | _, _, _, .nil => ⟨rfl, rfl⟩
  | _, _, _, .cons _ t => by simp [t.lens.1, t.lens.2]
theorem Al.append : ∀ {ds es : List D} {vs us : List V} {Ps Qs : List (List Addr)}, Al K H A ds vs Ps → Al K H A es us Qs → Al K H A (ds ++ es) (vs ++ us) (Ps ++ Qs)
  | _, _, _, _, _, _, .nil, g => g
  | _, _, _, _, _, _, .cons r t, g => .cons r (Al.append t g)
theorem flat_nodup : ∀ {Ps : List (List Addr)}, Ps.flatten.Nodup → (∀ (j : Nat) (P : List Addr), Ps[j]? = some P → P.Nodup) ∧ ∀ (i j : Nat) (P Q : List Addr), i ≠ j → Ps[i]? = some P → Ps[j]? = some Q → ∀ b, b ∈ P → b ∉ Q
  | [], _ => ⟨fun j P e => by simp at e, fun i j P Q _ e => by simp at e⟩
  | R :: Ps, h => by
    rw [List.flatten_cons, List.nodup_append] at h
    obtain ⟨h1, h2, h3⟩ := h
    obtain ⟨g1, g2⟩ := flat_nodup h2
    have mem : ∀ (j : Nat) (P : List Addr), Ps[j]? = some P → ∀ b, b ∈ P → b ∈ Ps.flatten := fun j P e b hb => List.mem_flatten.mpr ⟨P, List.mem_of_getElem? e, hb⟩
    refine ⟨fun j P e => ?_, fun i j P Q hij ei ej b hb hq => ?_⟩
    · cases j with
      | zero => simp at e; subst e; exact h1
      | succ j => exact g1 j P (by simpa using e)
    · cases i with
      | zero => cases j with
        | zero => exact hij rfl
        | succ j =>
          simp at ei; subst ei
          exact h3 b hb b (mem j Q (by simpa using ej) b hq) rfl
      | succ i => cases j with
        | zero =>
          simp at ej; subst ej
          exact h3 b hq b (mem i P (by simpa using ei) b hb) rfl
        | succ j => exact g2 i j P Q (by omega) (by simpa using ei) (by simpa using ej) b hb hq
/-- the arguments' own nodes, place by place -/
theorem AI.al {ρ1 : Env} {σ : L2.St} {own1 : Own} {B : AP} : ∀ {es : Es} {ds : List D} {vs : List V} {P : List Addr} (n : Nat), AI K H A ρ1 σ es ds vs P → (∀ d v Q, d ∈ ds → Rp K H A d v Q → Rp K H B d v Q) →
    (∀ i d v, i ∈ es.ios → getS ρ1 i = some d → d ∈ ds → σ[i]? = some (some v) → Rp K H B d v (own1 i)) → ∃ Ps, Al K H B ds vs Ps ∧ (∀ b, b ∈ Ps.flatten ↔ b ∈ P ∨ ∃ i, i ∈ es.ios ∧ b ∈ own1 i) ∧
      ((P.Nodup ∧ es.ios.Nodup ∧ (∀ i, (own1 i).Nodup) ∧ (∀ i b, b ∈ own1 i → b ∉ P) ∧ ∀ i j b, i ≠ j → b ∈ own1 i → b ∉ own1 j) → Ps.flatten.Nodup) ∧
      ∀ i p, (i, p) ∈ es.ios.zip (es.ioPos n) → n ≤ p ∧ Ps[p - n]? = some (own1 i) ∧ ∃ v, vs[p - n]? = some v ∧ σ[i]? = some (some v)
  | .nil, ds, vs, P, n, ⟨e1, e2, e3⟩, _, _ => by
    subst e1 e2 e3
    exact ⟨[], .nil, fun b => by simp [Es.ios], fun _ => List.nodup_nil, fun i p h => by simp [Es.ios] at h⟩
  | .cons q e es, ds, vs, P, n, ⟨d, dr, v, vr, P1, P2, e1, e2, e3, h1, h2⟩, hB, hio => by
    subst e1 e2 e3
    obtain ⟨Ps, g1, g2, g3, g4⟩ := AI.al (n + 1) h2 (fun d v Q hd r => hB d v Q (List.mem_cons_of_mem _ hd) r) fun i d v hi g hd s => hio i d v hi g (List.mem_cons_of_mem _ hd) s
    refine ⟨P1 :: Ps, .cons (hB d v P1 List.mem_cons_self h1) g1, fun b => ?_, fun hn => ?_, fun i p hp => ?_⟩
    · rw [List.flatten_cons, List.mem_append, g2 b, List.mem_append]
      exact ⟨fun z => z.elim (fun z => .inl (.inl z)) fun z => z.imp .inr id, fun z => z.elim (fun z => z.imp id .inl) fun z => .inr (.inr z)⟩
    · obtain ⟨n1, n2, n3, n4, n5⟩ := hn
      rw [List.nodup_append] at n1
      rw [List.flatten_cons, List.nodup_append]
      refine ⟨n1.1, g3 ⟨n1.2.1, n2, n3, fun i b hb z => n4 i b hb (List.mem_append_right _ z), n5⟩, fun a ha b hb e => ?_⟩
      subst e
      rcases (g2 a).mp hb with z | ⟨i, _, z⟩
      · exact n1.2.2 a ha a z rfl
      · exact n4 i a z (List.mem_append_left _ ha)
    · obtain ⟨z1, z2, v', z3, z4⟩ := g4 i p hp
      have e : p - n = (p - (n + 1)) + 1 := by omega
      exact ⟨by omega, by rw [e]; simpa using z2, v', by rw [e]; simpa using z3, z4⟩
  | .io i es, ds, vs, P, n, ⟨d, dr, v, vr, e1, e2, h1, h2, h3⟩, hB, hio => by
    subst e1 e2
    obtain ⟨Ps, g1, g2, g3, g4⟩ := AI.al (n + 1) h3 (fun d v Q hd r => hB d v Q (List.mem_cons_of_mem _ hd) r) fun i d v hi g hd s => hio i d v (List.mem_cons_of_mem _ hi) g (List.mem_cons_of_mem _ hd) s
    refine ⟨own1 i :: Ps, .cons (hio i d v List.mem_cons_self h1 List.mem_cons_self h2) g1, fun b => ?_, fun hn => ?_, fun j p hp => ?_⟩
    · rw [List.flatten_cons, List.mem_append, g2 b]
      constructor
      · rintro (z | z | ⟨j, hj, z⟩)
        · exact .inr ⟨i, List.mem_cons_self, z⟩
        · exact .inl z
        · exact .inr ⟨j, List.mem_cons_of_mem _ hj, z⟩
      · rintro (z | ⟨j, hj, z⟩)
        · exact .inr (.inl z)
        · rcases List.mem_cons.mp hj with rfl | hj
          · exact .inl z
          · exact .inr (.inr ⟨j, hj, z⟩)
    · obtain ⟨n1, n2, n3, n4, n5⟩ := hn
      have n2' := List.nodup_cons.mp n2
      rw [List.flatten_cons, List.nodup_append]
      refine ⟨n3 i, g3 ⟨n1, n2'.2, n3, n4, n5⟩, fun a ha b hb e => ?_⟩
      subst e
      rcases (g2 a).mp hb with z | ⟨j, hj, z⟩
      · exact n4 i a ha z
      · exact n5 i j a (fun e => n2'.1 (e ▸ hj)) ha z
    · rcases List.mem_cons.mp hp with z | hp
      · cases z
        exact ⟨Nat.le_refl _, by rw [Nat.sub_self]; rfl, v, by rw [Nat.sub_self]; rfl, h2⟩
      · obtain ⟨z1, z2, v', z3, z4⟩ := g4 j p hp
        have e : p - n = (p - (n + 1)) + 1 := by omega
        exact ⟨by omega, by rw [e]; simpa using z2, v', by rw [e]; simpa using z3, z4⟩
theorem AI.length {ρ1 : Env} {σ : L2.St} : ∀ {es : Es} {ds : List D} {vs : List V} {P : List Addr}, AI K H A ρ1 σ es ds vs P → vs.length = ds.length
  | .nil, ds, vs, P, ⟨e1, e2, e3⟩ => by rw [e1, e2]; rfl
  | .cons q e es, ds, vs, P, ⟨d, dr, v, vr, P1, P2, e1, e2, e3, h1, h2⟩ => by rw [e1, e2, List.length_cons, List.length_cons, AI.length h2]
  | .io i es, ds, vs, P, ⟨d, dr, v, vr, e1, e2, h1, h2, h3⟩ => by rw [e1, e2, List.length_cons, List.length_cons, AI.length h3]
theorem ioPos_len : ∀ (es : Es) (n : Nat), (es.ioPos n).length = es.ios.length
  | .nil, n => rfl
  | .cons q e es, n => ioPos_len es (n + 1)
  | .io i es, n => by rw [Es.ioPos, Es.ios, List.length_cons, List.length_cons, ioPos_len es (n + 1)]
theorem putIos_get : ∀ {ρ ρ2 : Env} {is : List Nat} {os : List D}, putIos ρ is os = some ρ2 → is.Nodup → ρ2.length = ρ.length ∧ is.length = os.length ∧ (∀ j, j ∉ is → ρ2[j]? = ρ[j]?) ∧ ∀ i d, (i, d) ∈ is.zip os → ρ2[i]? = some (some d) ∧ nfm d = true
  | ρ, ρ2, [], [], h, _ => by
    cases h
    exact ⟨rfl, rfl, fun _ _ => rfl, fun i d h => by simp at h⟩
  | ρ, ρ2, [], _ :: _, h, _ => by cases h
  | ρ, ρ2, _ :: _, [], h, _ => by cases h
  | ρ, ρ2, i :: is, d :: os, h, hn => by
    unfold putIos at h
    split at h
    · rename_i hc
      have hn' := List.nodup_cons.mp hn
      obtain ⟨g1, g2, g3, g4⟩ := putIos_get h hn'.2
      refine ⟨by rw [g1, List.length_set], by simp [g2], fun j hj => ?_, fun j e he => ?_⟩
      · rw [g3 j fun z => hj (List.mem_cons_of_mem _ z), List.getElem?_set_ne fun z => hj (by rw [z]; exact List.mem_cons_self)]
      · rcases List.mem_cons.mp he with z | he
        · cases z
          exact ⟨by rw [g3 i hn'.1, List.getElem?_set_self hc.2], hc.1⟩
        · exact g4 j e he
    · cases h
theorem getIos_get : ∀ {ρ : Env} {is : List Nat} {os : List D}, getIos ρ is = some os → is.length = os.length ∧ ∀ i d, (i, d) ∈ is.zip os → getS ρ i = some d
  | ρ, [], os, h => by cases h; exact ⟨rfl, fun i d h => by simp at h⟩
  | ρ, i :: is, os, h => by
    obtain ⟨d, h1, h2⟩ := Option.bind_eq_some_iff.mp (show (getS ρ i).bind (fun d => (getIos ρ is).map fun ds => d :: ds) = some os from h)
    obtain ⟨ds, h3, rfl⟩ := Option.map_eq_some_iff.mp h2
    obtain ⟨g1, g2⟩ := getIos_get h3
    refine ⟨by simp [g1], fun j e he => ?_⟩
    rcases List.mem_cons.mp he with z | he
    · cases z; exact h1
    · exact g2 j e he
/-- a slot's partner among the arguments -/
theorem zip3 {α β γ : Type} : ∀ {as : List α} {bs : List β} {cs : List γ} {a : α} {b : β}, as.length = cs.length → (a, b) ∈ as.zip bs → bs.length = cs.length → ∃ c, (a, c) ∈ as.zip cs ∧ (b, c) ∈ bs.zip cs
  | [], _, _, _, _, _, h, _ => by simp at h
  | _ :: _, [], _, _, _, _, h, _ => by simp at h
  | _ :: _, _ :: _, [], _, _, e, _, _ => by simp at e
  | x :: as, y :: bs, z :: cs, a, b, e, h, e2 => by
    rcases List.mem_cons.mp h with q | h
    · cases q
      exact ⟨z, List.mem_cons_self, List.mem_cons_self⟩
    · obtain ⟨c, h1, h2⟩ := zip3 (by simpa using e) h (by simpa using e2)
      exact ⟨c, List.mem_cons_of_mem _ h1, List.mem_cons_of_mem _ h2⟩
theorem lookup_zip {s : Nat} : ∀ {as bs : List Nat}, as.length = bs.length → ((as.zip bs).lookup s = none ∧ s ∉ as) ∨ ∃ p, (as.zip bs).lookup s = some p ∧ (s, p) ∈ as.zip bs
  | [], bs, _ => .inl ⟨rfl, List.not_mem_nil⟩
  | a :: as, [], e => by simp at e
  | a :: as, b :: bs, e => by
    by_cases h : s = a
    · subst h
      exact .inr ⟨b, by simp [List.lookup_cons], List.mem_cons_self⟩
    · have hb : (s == a) = false := by simpa using h
      rw [List.zip_cons_cons, List.lookup_cons, hb]
      rcases lookup_zip (s := s) (as := as) (bs := bs) (by simpa using e) with ⟨h1, h2⟩ | ⟨p, h1, h2⟩
      · exact .inl ⟨h1, fun z => (List.mem_cons.mp z).elim h h2⟩
      · exact .inr ⟨p, h1, List.mem_cons_of_mem _ h2⟩
theorem nfms_mem : ∀ {ds : List D} {d : D}, nfms ds = true → d ∈ ds → nfm d = true
  | [], d, _, h => nomatch h
  | x :: xs, d, n, h => by
    have n' := (Bool.and_eq_true _ _).mp n
    rcases List.mem_cons.mp h with rfl | h
    · exact n'.1
    · exact nfms_mem n'.2 h
theorem al_flat : ∀ {ds : List D}, ds.all Mn.flat = true → (∀ d, d ∈ ds → ∀ s, d = .str s → PyData.strOk s = true) → Al K H A ds (ds.map vOf) (ds.map fun _ => [])
  | [], _, _ => .nil
  | d :: ds, h, hs => by
    rw [List.all_cons, Bool.and_eq_true] at h
    refine .cons ?_ (al_flat h.2 fun e he => hs e (List.mem_cons_of_mem _ he))
    cases d <;> first | (cases h.1; done) | skip
    · exact ⟨rfl, rfl⟩
    · exact ⟨rfl, rfl⟩
    · exact ⟨rfl, rfl⟩
    · exact ⟨rfl, rfl, hs _ List.mem_cons_self _ rfl⟩
theorem AI.there {ρ1 : Env} {σ : L2.St} : ∀ {es : Es} {ds : List D} {vs : List V} {P : List Addr}, AI K H A ρ1 σ es ds vs P → ∀ c, c ∈ P → ∃ o, H c = some o ∧ ¬ Still o
  | .nil, ds, vs, P, ⟨e1, e2, e3⟩, c, hc => by rw [e3] at hc; cases hc
  | .cons q e es, ds, vs, P, ⟨d, dr, v, vr, P1, P2, e1, e2, e3, h1, h2⟩, c, hc => by
    rw [e3] at hc
    exact (List.mem_append.mp hc).elim (h1.there c) (AI.there h2 c)
  | .io i es, ds, vs, P, ⟨d, dr, v, vr, e1, e2, h1, h2, h3⟩, c, hc => AI.there h3 c hc
theorem ioPos_nodup : ∀ (es : Es) (n : Nat), (es.ioPos n).Nodup ∧ ∀ p, p ∈ es.ioPos n → n ≤ p
  | .nil, n => ⟨List.nodup_nil, fun p h => nomatch h⟩
  | .cons q e es, n => ⟨(ioPos_nodup es (n + 1)).1, fun p h => Nat.le_of_succ_le ((ioPos_nodup es (n + 1)).2 p h)⟩
  | .io i es, n => by
    have ih := ioPos_nodup es (n + 1)
    refine ⟨List.nodup_cons.mpr ⟨fun h => absurd (ih.2 n h) (by omega), ih.1⟩, fun p h => ?_⟩
    rcases List.mem_cons.mp h with rfl | h
    · exact Nat.le_refl _
    · exact Nat.le_of_succ_le (ih.2 p h)
theorem ios_W : ∀ (es : Es) (j : Nat), j ∈ es.ios → j ∈ es.W
  | .nil, j, h => nomatch h
  | .cons q e es, j, h => List.mem_append_right _ (ios_W es j h)
  | .io i es, j, h => by
    rcases List.mem_cons.mp h with rfl | h
    · exact List.mem_cons_self
    · exact List.mem_cons_of_mem _ (ios_W es j h)
theorem zip_inj : ∀ {as bs : List Nat} {a b p : Nat}, bs.Nodup → (a, p) ∈ as.zip bs → (b, p) ∈ as.zip bs → a = b
  | [], bs, a, b, p, _, h, _ => by simp at h
  | _ :: _, [], a, b, p, _, h, _ => by simp at h
  | c :: as, d :: bs, a, b, p, hn, h1, h2 => by
    have hd := List.nodup_cons.mp hn
    rcases List.mem_cons.mp h1 with e | h1
    · cases e
      rcases List.mem_cons.mp h2 with e | h2
      · cases e; rfl
      · exact absurd (List.of_mem_zip h2).2 hd.1
    · rcases List.mem_cons.mp h2 with e | h2
      · cases e
        exact absurd (List.of_mem_zip h1).2 hd.1
      · exact zip_inj hd.2 h1 h2
/-- what a callee is handed -/
theorem Al.env {F : AP} {ds : List D} {vs : List V} {Ps : List (List Addr)} (h : Al K H (fun a => ¬ F a ∧ a ∉ Ps.flatten) ds vs Ps) (nd : Ps.flatten.Nodup) (fr : ∀ b, b ∈ Ps.flatten → ¬ F b) (fa : ∀ b, F b → H b ≠ none) :
    EnvR K F (ds.map some) (fun j => (Ps[j]?).getD []) (vs.map some) H := by
  obtain ⟨n1, n2⟩ := flat_nodup nd
  have at_ : ∀ (j : Nat) (b : Addr), b ∈ (Ps[j]?).getD [] → ∃ Q, Ps[j]? = some Q ∧ b ∈ Q := fun j b hb => by
    cases e : Ps[j]? with
    | none => rw [e] at hb; cases hb
    | some Q => rw [e] at hb; exact ⟨Q, rfl, hb⟩
  have mem : ∀ (j : Nat) (b : Addr), b ∈ (Ps[j]?).getD [] → b ∈ Ps.flatten := fun j b hb => by
    obtain ⟨Q, e, hb⟩ := at_ j b hb
    exact List.mem_flatten.mpr ⟨Q, List.mem_of_getElem? e, hb⟩
  refine ⟨by rw [List.length_map, List.length_map, h.lens.1], fun j d e => ?_, fun j hn => ?_, fun j => ?_, fun i j b hij hi hj => ?_, fun j b hb => fr b (mem j b hb), fa⟩
  · rw [List.getElem?_map] at e
    obtain ⟨d', e1, e2⟩ := Option.map_eq_some_iff.mp e
    cases e2
    obtain ⟨v, Q, g1, g2, g3⟩ := h.get e1
    refine ⟨v, by rw [List.getElem?_map, g1]; rfl, ?_⟩
    show Rp K H _ d v ((Ps[j]?).getD [])
    rw [g2]
    exact g3.mono (fun _ _ e _ => e) fun a _ _ z => ⟨z.1, fun i hi => z.2 (mem i a hi)⟩
  · show (Ps[j]?).getD [] = []
    cases e : Ps[j]? with
    | none => rfl
    | some Q =>
      have hj : j < ds.length := by rw [← h.lens.2]; exact (List.getElem?_eq_some_iff.mp e).1
      exact absurd (by rw [List.getElem?_map, List.getElem?_eq_getElem hj]; rfl) (hn ds[j])
  · show ((Ps[j]?).getD []).Nodup
    cases e : Ps[j]? with
    | none => exact List.nodup_nil
    | some Q => exact n1 j Q e
  · obtain ⟨Q1, e1, h1⟩ := at_ i b hi
    obtain ⟨Q2, e2, h2⟩ := at_ j b hj
    exact n2 i j Q1 Q2 hij e1 e2 b h1 h2
end
section
variable {P : Program} {w : World} {K : PySem.W.Frag} {mg : Str → Option Value} {base : Heap} {cf : Nat → List D → Option (D × List D)} {L : Lx}
theorem call_core {i : Nat} {f : Fn} {q : Bool} {ies : Es} (hio : ies.ioPos 0 = f.io) (hnd : ies.ios.Nodup) (hq : q = true → ∀ j, j ∈ ies.U → j ∉ ies.ios) (hfl : f.dfl.all Mn.flat = true) (hst : ∀ d, d ∈ f.dfl → ∀ s, d = .str s → PyData.strOk s = true)
    (hdf : ∀ ds r, cf i ds = some r → ds.length ≤ f.ps.length ∧ f.ps.length ≤ ds.length + f.dfl.length ∧ cf i (ds ++ f.dfl.drop (f.dfl.length - (f.ps.length - ds.length))) = some r)
    {F : AP} {ρ ρ1 ρ2 : Env} {own own1 : Own} {σ : L2.St} {H H1 : Hp} {xs : List D} {vs : List V} {P1 : List Addr} {d : D} {os : List D} (E : EnvR K F ρ own σ H) (r : ResI K F ies own H ρ1 σ xs vs P1 own1 H1)
    (hg : (q || nfms xs) = true) (hcf : cf i xs = some (d, os)) (hput : putIos ρ1 ies.ios os = some ρ2) {Q : VK} (k : ∀ v P' own' H', Res K F ies.U ies.W own H ρ2 σ d v P' own' H' → Q v H') :
    spF K cf i f (vs ++ (f.dfl.drop (f.dfl.length - (f.ps.length - xs.length))).map vOf) H1 Q E0 := by
  obtain ⟨hd1, hd2, hd3⟩ := hdf xs _ hcf
  have hlen := r.rep.length
  -- what is not to be touched: all own nodes that are neither handed in nor read
  let Fc : AP := fun b => F b ∨ ∃ j, j ∉ ies.U ∧ j ∉ ies.ios ∧ b ∈ own1 j
  have e1 := r.env
  have ioU : (∀ j, j ∈ ies.U → j ∉ ies.ios) ∨ nfms xs = true := (Bool.or_eq_true _ _).mp hg |>.imp hq id
  -- place by place
  obtain ⟨Ps, al, memP, ndP, ioP⟩ := AI.al (B := fun a => ¬ Fc a ∧ a ∉ P1 ∧ ∀ i, i ∈ ies.ios → a ∉ own1 i) 0 r.rep (fun d v Q hd rr => by
      rcases ioU with c | c
      · exact rr.mono (fun _ _ e _ => e) fun a _ _ z => ⟨fun y => y.elim z.1 fun ⟨j, h1, _, h3⟩ => z.2.2 j h1 h3, z.2.1, fun i hi => z.2.2 i fun y => c i y hi⟩
      · exact rr.nfm (nfms_mem c hd)) (fun i d v hi g hd s => by
      obtain ⟨v', g1, g2⟩ := e1.rep i d (getS_some g)
      rw [s] at g1
      cases g1
      exact g2.mono (fun _ _ e _ => e) fun a _ _ z => ⟨fun y => y.elim (fun y => z.1 (.inl y)) fun ⟨j, _, _, h3⟩ => z.2 j h3, fun y => z.1 (.inr y), fun i _ => z.2 i⟩)
  have nd : Ps.flatten.Nodup := ndP ⟨r.nd, hnd, e1.nd, fun i b hb z => e1.fr i b hb (.inr z), e1.dj⟩
  have al2 : Al K H1 (fun a => ¬ Fc a ∧ a ∉ (Ps ++ (f.dfl.drop (f.dfl.length - (f.ps.length - xs.length))).map fun _ => []).flatten) (xs ++ f.dfl.drop (f.dfl.length - (f.ps.length - xs.length))) (vs ++ (f.dfl.drop (f.dfl.length - (f.ps.length - xs.length))).map vOf)
      (Ps ++ (f.dfl.drop (f.dfl.length - (f.ps.length - xs.length))).map fun _ => []) := by
    have nilfl : ((f.dfl.drop (f.dfl.length - (f.ps.length - xs.length))).map fun _ => ([] : List Addr)).flatten = [] := by
      have : ∀ l : List D, (l.map fun _ => ([] : List Addr)).flatten = [] := fun l => by induction l with
        | nil => rfl
        | cons a l ih => rw [List.map_cons, List.flatten_cons, ih]; rfl
      exact this _
    rw [List.flatten_append, nilfl, List.append_nil]
    refine Al.append ?_ ?_
    · have : ∀ {ds : List D} {vs : List V} {Qs : List (List Addr)}, Al K H1 (fun a => ¬ Fc a ∧ a ∉ P1 ∧ ∀ i, i ∈ ies.ios → a ∉ own1 i) ds vs Qs → Al K H1 (fun a => ¬ Fc a ∧ a ∉ Ps.flatten) ds vs Qs := fun {ds vs Qs} h => by
        induction h with
        | nil => exact .nil
        | cons r _ ih => exact .cons (r.mono (fun _ _ e _ => e) fun a _ _ z => ⟨z.1, fun y => ((memP a).mp y).elim z.2.1 fun ⟨i, h1, h2⟩ => z.2.2 i h1 h2⟩) ih
      exact this al
    · refine al_flat (List.all_eq_true.mpr fun x hx => List.all_eq_true.mp hfl x (List.mem_of_mem_drop hx)) fun d hd => hst d (List.mem_of_mem_drop hd)
  have flat_eq : (Ps ++ (f.dfl.drop (f.dfl.length - (f.ps.length - xs.length))).map fun _ => ([] : List Addr)).flatten = Ps.flatten := by
    have : ∀ l : List D, (l.map fun _ => ([] : List Addr)).flatten = [] := fun l => by induction l with
      | nil => rfl
      | cons a l ih => rw [List.map_cons, List.flatten_cons, ih]; rfl
    rw [List.flatten_append, this, List.append_nil]
  have frF : ∀ b, b ∈ Ps.flatten → ¬ Fc b := fun b hb y => by
    rcases (memP b).mp hb with z | ⟨i, hi, z⟩
    · exact y.elim (r.F_of E b z) fun ⟨j, _, _, h3⟩ => e1.fr j b h3 (.inr z)
    · refine y.elim (fun y => e1.fr i b z (.inl y)) fun ⟨j, _, h2, h3⟩ => e1.dj i j b (fun e => h2 (e ▸ hi)) z h3
  have Ec := al2.env (F := Fc) (by rw [flat_eq]; exact nd) (by rw [flat_eq]; exact frF) (fun b y => y.elim (fun y => e1.fa b (.inl y)) fun ⟨j, _, _, h3⟩ => by
    obtain ⟨o, e, _⟩ := e1.own_there h3
    rw [e]; simp)
  have lenF : (vs ++ (f.dfl.drop (f.dfl.length - (f.ps.length - xs.length))).map vOf).length = f.ps.length := by
    rw [List.length_append, List.length_map, List.length_drop, hlen]
    omega
  refine ⟨lenF, Fc, _, _, d, os, Ec, hd3, fun v P2 ownc Hc ρc Ee hio2 hnio rv ndv po => ?_⟩
  obtain ⟨l1, g1⟩ := getIos_get hio2
  obtain ⟨l2, l3, p1, p2⟩ := putIos_get hput hnd
  have lio : ies.ios.length = f.io.length := by rw [← hio, ioPos_len]
  have lookio : ∀ s p, (s, p) ∈ ies.ios.zip f.io → ∃ dd, (s, dd) ∈ ies.ios.zip os ∧ (p, dd) ∈ f.io.zip os := fun s p h => zip3 (by rw [lio, l1]) h l1
  let own2 : Own := fun s => match (ies.ios.zip f.io).lookup s with
    | some p => ownc p
    | none => own1 s
  have own2_io : ∀ s p, (ies.ios.zip f.io).lookup s = some p → own2 s = ownc p := fun s p h => by show (match (ies.ios.zip f.io).lookup s with | some p => ownc p | none => own1 s) = _; rw [h]
  have own2_no : ∀ s, (ies.ios.zip f.io).lookup s = none → own2 s = own1 s := fun s h => by show (match (ies.ios.zip f.io).lookup s with | some p => ownc p | none => own1 s) = _; rw [h]
  have cases2 : ∀ s b, b ∈ own2 s → (∃ p, (ies.ios.zip f.io).lookup s = some p ∧ (s, p) ∈ ies.ios.zip f.io ∧ b ∈ ownc p) ∨ (s ∉ ies.ios ∧ b ∈ own1 s) := fun s b hb => by
    rcases lookup_zip (s := s) lio with ⟨h1, h2⟩ | ⟨p, h1, h2⟩
    · rw [own2_no s h1] at hb; exact .inr ⟨h2, hb⟩
    · rw [own2_io s p h1] at hb; exact .inl ⟨p, h1, h2, hb⟩
  -- the callee's nodes: made anew, or handed in
  have hand : ∀ (j : Nat) (b : Addr), b ∈ ((Ps ++ (f.dfl.drop (f.dfl.length - (f.ps.length - xs.length))).map fun _ => ([] : List Addr))[j]?).getD [] → b ∈ P1 ∨ ∃ i, i ∈ ies.ios ∧ b ∈ own1 i := fun j b hb => by
    refine (memP b).mp ?_
    rw [← flat_eq]
    cases e : (Ps ++ (f.dfl.drop (f.dfl.length - (f.ps.length - xs.length))).map fun _ => ([] : List Addr))[j]? with
    | none => rw [e] at hb; cases hb
    | some R => rw [e] at hb; exact List.mem_flatten.mpr ⟨R, List.mem_of_getElem? e, hb⟩
  have src : ∀ p b, b ∈ ownc p → H1 b = none ∨ b ∈ P1 ∨ ∃ i, i ∈ ies.ios ∧ b ∈ own1 i := fun p b hb => by
    rcases po.frO p b hb with z | ⟨_, z | ⟨i, _, z⟩⟩
    · exact .inr (hand p b z)
    · exact .inl z
    · exact .inr (hand i b z)
  have srcP : ∀ b, b ∈ P2 → H1 b = none ∨ b ∈ P1 ∨ ∃ i, i ∈ ies.ios ∧ b ∈ own1 i := fun b hb => by
    rcases po.frP b hb with z | ⟨i, _, z⟩
    · exact .inl z
    · exact .inr (hand i b z)
  have keepc : ∀ b o, H1 b = some o → b ∉ P1 → (∀ i, i ∈ ies.ios → b ∉ own1 i) → Hc b = some o := fun b o e n1 n2 => po.keep b o e fun j _ hb => (hand j b hb).elim n1 fun ⟨i, h1, h2⟩ => n2 i h1 h2
  -- nodes of slots that aren't handed in
  have others : ∀ j, j ∉ ies.ios → ∀ b, b ∈ own1 j → b ∉ P1 ∧ (∀ i, i ∈ ies.ios → b ∉ own1 i) ∧ b ∉ P2 ∧ ∀ p, b ∉ ownc p := fun j hj b hb => by
    have a1 : b ∉ P1 := fun z => e1.fr j b hb (.inr z)
    have a2 : ∀ i, i ∈ ies.ios → b ∉ own1 i := fun i hi => e1.dj j i b (fun e => hj (e ▸ hi)) hb
    have a3 : H1 b ≠ none := by
      obtain ⟨o, e, _⟩ := e1.own_there hb
      rw [e]; simp
    exact ⟨a1, a2, fun z => (srcP b z).elim a3 fun z => z.elim a1 fun ⟨i, h1, h2⟩ => a2 i h1 h2, fun p z => (src p b z).elim a3 fun z => z.elim a1 fun ⟨i, h1, h2⟩ => a2 i h1 h2⟩
  have notF : ∀ b, (b ∈ P2 ∨ ∃ p, b ∈ ownc p) → ¬ F b := fun b hb y => by
    have hs : H1 b = none ∨ b ∈ P1 ∨ ∃ i, i ∈ ies.ios ∧ b ∈ own1 i := hb.elim (srcP b) fun ⟨p, z⟩ => src p b z
    rcases hs with z | z | ⟨i, _, z⟩
    · exact e1.fa b (.inl y) z
    · exact r.F_of E b z y
    · exact e1.fr i b z (.inl y)
  have E2 : EnvR K (FP F P2) ρ2 own2 σ Hc := by
    refine ⟨by rw [l2]; exact e1.len, fun j dd e => ?_, fun j hn => ?_, fun j => ?_, fun a b x hab ha hb => ?_, fun j b hb => ?_, fun b y => ?_⟩
    · rcases lookup_zip (s := j) lio with ⟨h1, h2⟩ | ⟨p, h1, h2⟩
      · rw [p1 j h2] at e
        obtain ⟨v', g2, g3⟩ := e1.rep j dd e
        refine ⟨v', g2, ?_⟩
        rw [own2_no j h1]
        refine g3.mono (fun b o eb z => ?_) fun a o ea z => ⟨fun y => ?_, fun i hi => ?_⟩
        · rcases z with z | z | z
          · exact keepc b o eb (others j h2 b z).1 (others j h2 b z).2.1
          · exact keepc b o eb (fun y => z.1 (.inr y)) fun i _ => z.2 i
          · refine keepc b o eb (fun y => ?_) fun i _ y => ?_
            · obtain ⟨o', eo, n⟩ := r.rep.there b y
              rw [eb] at eo; cases eo
              exact n z
            · obtain ⟨o', eo, n⟩ := e1.own_there y
              rw [eb] at eo; cases eo
              exact n z
        · rcases y with y | y
          · exact z.1 (.inl y)
          · rcases srcP a y with y | y | ⟨i, _, y⟩
            · rw [ea] at y; cases y
            · exact z.1 (.inr y)
            · exact z.2 i y
        · rcases cases2 i a hi with ⟨p, _, _, y⟩ | ⟨_, y⟩
          · rcases src p a y with y | y | ⟨i, _, y⟩
            · rw [ea] at y; cases y
            · exact z.1 (.inr y)
            · exact z.2 i y
          · exact z.2 i y
      · obtain ⟨dd', q1, q2⟩ := lookio j p h2
        obtain ⟨s1, s2⟩ := p2 j dd' q1
        rw [s1] at e
        cases e
        obtain ⟨v', g2, g3⟩ := Ee.rep p dd (getS_some (g1 p dd q2))
        obtain ⟨_, z2, v'', z3, z4⟩ := ioP j p (by rw [hio]; exact h2)
        rw [Nat.sub_zero] at z3
        have : v'' = v' := by
          rw [List.getElem?_map, List.getElem?_append_left (List.getElem?_eq_some_iff.mp z3).1, z3] at g2
          cases g2
          rfl
        subst this
        refine ⟨v'', z4, ?_⟩
        rw [own2_io j p h1]
        exact g3.nfm s2
    · rcases lookup_zip (s := j) lio with ⟨h1, h2⟩ | ⟨p, h1, h2⟩
      · rw [own2_no j h1]
        exact e1.non j fun dd => by rw [← p1 j h2]; exact hn dd
      · obtain ⟨dd', q1, q2⟩ := lookio j p h2
        exact absurd (p2 j dd' q1).1 (hn dd')
    · rcases lookup_zip (s := j) lio with ⟨h1, h2⟩ | ⟨p, h1, h2⟩
      · rw [own2_no j h1]; exact e1.nd j
      · rw [own2_io j p h1]; exact Ee.nd p
    · rcases cases2 a x ha with ⟨p, _, h2, h3⟩ | ⟨h2, h3⟩
      · rcases cases2 b x hb with ⟨p', _, k2, k3⟩ | ⟨k2, k3⟩
        · by_cases hp : p = p'
          · subst hp
            exact hab (zip_inj (hio ▸ (ioPos_nodup ies 0).1) h2 k2)
          · exact Ee.dj p p' x hp h3 k3
        · exact (others b k2 x k3).2.2.2 p h3
      · rcases cases2 b x hb with ⟨p', _, k2, k3⟩ | ⟨k2, k3⟩
        · exact (others a h2 x h3).2.2.2 p' k3
        · exact e1.dj a b x hab h3 k3
    · rcases cases2 j b hb with ⟨p, _, _, h3⟩ | ⟨h2, h3⟩
      · exact fun y => y.elim (notF b (.inr ⟨p, h3⟩)) fun y => Ee.fr p b h3 (.inr y)
      · exact fun y => y.elim (fun y => e1.fr j b h3 (.inl y)) (others j h2 b h3).2.2.1
    · rcases y with y | y
      · exact po.there b (e1.fa b (.inl y))
      · exact Ee.fa b (.inr y)
  refine k v P2 own2 Hc ⟨E2, ?_, ndv, ?_⟩
  · refine rv.mono (fun _ _ e _ => e) fun a o ea z => ⟨fun y => z.1 (.inl y), z.2.1, fun j hj y => ?_⟩
    rcases cases2 j a y with ⟨p, _, _, h3⟩ | ⟨h2, h3⟩
    · exact z.2.2 p (List.not_mem_nil) h3
    · exact z.1 (.inr ⟨j, hj, h2, h3⟩)
  · have iosW := ios_W ies
    have back : ∀ b, (H1 b = none ∨ b ∈ P1 ∨ ∃ i, i ∈ ies.ios ∧ b ∈ own1 i) → H b = none ∨ ∃ j, j ∈ ies.W ∧ b ∈ own j := fun b hb => by
      rcases hb with z | z | ⟨i, hi, z⟩
      · left
        cases e : H b with
        | none => rfl
        | some o => exact absurd z (r.post.there b (by rw [e]; simp))
      · exact r.post.frP b z
      · rcases r.post.frO i b z with z | ⟨_, z | ⟨i', h1, z⟩⟩
        · exact .inr ⟨i, iosW i hi, z⟩
        · exact .inl z
        · exact .inr ⟨i', h1, z⟩
    refine ⟨fun b o e n => ?_, fun b e => po.there b (r.post.there b e), fun b hb => back b (srcP b hb), fun j b hb => ?_⟩
    · refine keepc b o (r.post.keep b o e n) (fun z => ?_) fun i hi z => ?_
      · rcases r.post.frP b z with y | ⟨j, hj, y⟩
        · rw [e] at y; cases y
        · exact n j hj y
      · rcases r.post.frO i b z with y | ⟨_, y | ⟨j, hj, y⟩⟩
        · exact n i (iosW i hi) y
        · rw [e] at y; cases y
        · exact n j hj y
    · rcases cases2 j b hb with ⟨p, _, h2, h3⟩ | ⟨h2, h3⟩
      · exact .inr ⟨iosW j (List.of_mem_zip h2).1, back b (src p b h3)⟩
      · exact r.post.frO j b h3
end
end Mn

/-! Mn K: calls, classes of values, slices, what is walked. -/
namespace Mn
open PySem L2
section
variable {P : Program} {w : World} {K : PySem.W.Frag} {mg : Str → Option Value} {base : Heap} {cf : Nat → List D → Option (D × List D)} {L : Lx}
theorem plain_star {pos : Pos} {env : PySem.Env} : ∀ {l : List Expr}, (∀ a, a ∈ l → ∀ x p, a ≠ .Starred x p) → (backTo pos (starEach l env)).any (·.1) = false
  | [], _ => rfl
  | a :: l, h => by
    rw [star_of (h a List.mem_cons_self)]
    exact plain_star fun c hc => h c (List.mem_cons_of_mem _ hc)
def StrsOk (ds : List D) : Prop := ∀ d, d ∈ ds → ∀ s, d = D.str s → PyData.strOk s = true
theorem den_call {q : Bool} {i : Nat} {ies : Es} {ρ ρ' : Env} {d : D} (h' : den cf (.call q i ies) ρ = .ok d ρ') : ∃ xs ρ1 os, denEs cf ies ρ = .ok xs ρ1 ∧ (q || nfms xs) = true ∧ cf i xs = some (d, os) ∧ putIos ρ1 ies.ios os = some ρ' := by
  rw [den] at h'
  obtain ⟨xs, ρ1, h1, h'⟩ := R.bind_ok h'
  obtain ⟨hgq, h'⟩ := R.grd_ok h'
  cases hcf : cf i xs with
  | none => rw [hcf] at h'; cases h'
  | some r =>
    obtain ⟨d0, os⟩ := r
    rw [hcf] at h'
    obtain ⟨h2, h3⟩ := R.opt_ok h'
    cases hput : putIos ρ1 ies.ios os with
    | none => rw [hput] at h2; cases h2
    | some ρ2 =>
      rw [hput] at h2 h3
      cases h2
      have h3' : ρ' = ρ2 := h3
      subst h3'
      exact ⟨xs, ρ1, os, h1, hgq, hcf, hput⟩
theorem ok_call0 {kf i : Nat} {f : Fn} {q : Bool} {p pos : Pos} (hc : CallOk P w K mg base cf kf i f) (hs : StrsOk f.dfl) (hk : kf ≤ L.k) (hio : f.io = []) (hg : L.sc.names.lookup f.name = some .globalImplicit) (hdb : (f.name == ("__debug__" : Str)) = false) :
    EOk P w K mg base cf L (.Call (.Name f.name p) [] [] pos) (.call q i .nil) := by
  intro F ρ own σ H E d ρ' h' Q k
  obtain ⟨xs, ρ1, os, h1, hgq, hcf, hput⟩ := den_call h'
  rw [denEs] at h1
  cases h1
  obtain ⟨fa, fd, g1, g2, g3, g4, _⟩ := hc.fn
  obtain ⟨ds, v1, b1⟩ := g4 (f.ps.length - ([] : List D).length) (by have := (hc.dfl [] _ hcf).2.1; omega)
  refine ⟨tCall (spF K cf i f) ((f.dfl.drop (f.dfl.length - (f.ps.length - ([] : List D).length))).map vOf) E0 tNil, fun X hX => ?_, ?_⟩
  · obtain ⟨e1, e2, e3, e4, e5⟩ : X.prog = P ∧ X.w = w ∧ X.K = K ∧ X.mg = mg ∧ X.base = base := ⟨hX.prog, hX.w, hX.K, hX.mg, hX.base⟩
    have gl := gl_of hX hg
    have rm := hX.room.mono hk
    have gd := hX.gd
    subst e1 e2 e3 e4 e5
    exact pe_callG0 g3 rm gd gl g1 g2 b1 v1 hdb
  · exact call_core (vs := []) (ies := .nil) hio.symm List.nodup_nil (fun _ j hj => nomatch hj) hc.flat hs hc.dfl E (⟨E.F0', ⟨rfl, rfl, rfl⟩, List.nodup_nil, Post.refl⟩ : ResI K F Es.nil own H ρ σ [] [] [] own H) hgq hcf hput k
theorem ok_call {kf i : Nat} {f : Fn} {q : Bool} {e : Expr} {es : List Expr} {ies : Es} {p pos : Pos} (hc : CallOk P w K mg base cf kf i f) (hs : StrsOk f.dfl) (hk : kf ≤ L.k) (h : EsOk P w K mg base cf L (e :: es) ies) (hio : ies.ioPos 0 = f.io) (hnd : ies.ios.Nodup)
    (hq : q = true → ∀ j, j ∈ ies.U → j ∉ ies.ios) (hg : L.sc.names.lookup f.name = some .globalImplicit) (hdb : (f.name == ("__debug__" : Str)) = false) (hst : ∀ a, a ∈ e :: es → ∀ x p, a ≠ .Starred x p) :
    EOk P w K mg base cf L (.Call (.Name f.name p) (e :: es) [] pos) (.call q i ies) := by
  intro F ρ own σ H E d ρ' h' Q k
  obtain ⟨xs, ρ1, os, h1, hgq, hcf, hput⟩ := den_call h'
  obtain ⟨fa, fd, g1, g2, g3, g4, _⟩ := hc.fn
  obtain ⟨ds, v1, b1⟩ := g4 (f.ps.length - xs.length) (by have := (hc.dfl xs _ hcf).2.1; omega)
  refine ⟨tCall (spF K cf i f) ((f.dfl.drop (f.dfl.length - (f.ps.length - xs.length))).map vOf) E0 (Wa P w K mg base L (e :: es)), fun X hX => ?_, ?_⟩
  · obtain ⟨e1, e2, e3, e4, e5⟩ : X.prog = P ∧ X.w = w ∧ X.K = K ∧ X.mg = mg ∧ X.base = base := ⟨hX.prog, hX.w, hX.K, hX.mg, hX.base⟩
    have gl := gl_of hX hg
    have rm := hX.room.mono hk
    have gd := hX.gd
    have pa := Wa.pa (es := e :: es) hX
    subst e1 e2 e3 e4 e5
    exact pe_callG g3 rm gd gl g1 g2 b1 v1 pa hdb (star_of (hst e List.mem_cons_self)) (plain_star fun a ha => hst a (List.mem_cons_of_mem _ ha))
  · exact h F ρ own σ H E xs _ h1 _ fun vs P1 own1 H1 r => call_core hio hnd hq hc.flat hs hc.dfl E r hgq hcf hput k
/-! slices -/
def Wpo (P : Program) (w : World) (K : PySem.W.Frag) (mg : Str → Option Value) (base : Heap) (L : Lx) (e : Option Expr) : TO := fun σ H Q => ∃ t : TO, (∀ X, InX P w K mg base L X → PO X e t) ∧ t σ H Q
theorem Wpo.po {X : Cx} {e : Option Expr} (h : InX P w K mg base L X) : PO X e (Wpo P w K mg base L e) := ⟨fun pins s σ H Q I ⟨_, p, q⟩ => (p X h).run pins s σ H Q I q⟩
def POk (P : Program) (w : World) (K : PySem.W.Frag) (mg : Str → Option Value) (base : Heap) (cf : Nat → List D → Option (D × List D)) (L : Lx) (e : Option Expr) (ie : E1) : Prop := ∀ (F : AP) (ρ : Env) (own : Own) (σ : L2.St) (H : Hp), EnvR K F ρ own σ H →
  ∀ (o : Option Int) (ρ' : Env), denO cf ie ρ = .ok o ρ' → ∀ Q : Option Int → Hp → Prop, (∀ own' H', EnvR K F ρ' own' σ H' → Post ie.W own H [] own' H' → Q o H') → Wpo P w K mg base L e σ H Q
theorem po_no : POk P w K mg base cf L none .no := by
  intro F ρ own σ H E o ρ' h Q q
  rw [denO] at h
  cases h
  exact ⟨tNoPart, fun X _ => po_none, q own H E Post.refl⟩
theorem po_yes {e : Expr} {ie : E} (he : EOk P w K mg base cf L e ie) : POk P w K mg base cf L (some e) (.yes ie) := by
  intro F ρ own σ H E o ρ' h Q q
  rw [denO] at h
  obtain ⟨x, ρ1, h1, h⟩ := R.bind_ok h
  cases x <;> first | (cases h; done) | skip
  cases h
  refine ⟨tPart (We P w K mg base L e), fun X hX => po_some (We.pe hX), ?_⟩
  refine he F ρ own σ H E _ _ h1 _ fun v P1 own1 H1 r => ?_
  obtain ⟨rfl, _⟩ := r.rep
  obtain ⟨E1, p1⟩ := r.drop
  exact ⟨_, rfl, q own1 H1 E1 p1⟩
theorem ok_sl {q1 q2 : Bool} {a : Expr} {lo hi : Option Expr} {ia : E} {il ih : E1} {pos p2 : Pos} (ha : EOk P w K mg base cf L a ia) (hl : POk P w K mg base cf L lo il) (hh : POk P w K mg base cf L hi ih) (hq : q1 = true → ∀ j, j ∈ ia.U → j ∉ il.W ++ ih.W) :
    EOk P w K mg base cf L (.Subscript a (.Slice lo hi none p2) pos) (.sl q1 q2 ia il ih) := by
  intro F ρ own σ H E d ρ' h Q q
  rw [den] at h
  obtain ⟨x, ρ1, h1, h⟩ := R.bind_ok h
  obtain ⟨l, ρ2, h2, h⟩ := R.bind_ok h
  obtain ⟨u, ρ3, h3, h⟩ := R.bind_ok h
  obtain ⟨hg, h⟩ := R.grd_ok h
  obtain ⟨h4, rfl⟩ := R.opt_ok h
  refine ⟨tSl (Wsl P w K mg base L) (We P w K mg base L a) (Wpo P w K mg base L lo) (Wpo P w K mg base L hi), fun X hX => pe_slice (Wsl.sl hX) (We.pe hX) (Wpo.po hX) (Wpo.po hX), ?_⟩
  refine ha F ρ own σ H E x ρ1 h1 _ fun v1 P1 own1 H1 r1 => ?_
  refine hl _ ρ1 own1 σ H1 r1.env l ρ2 h2 _ fun own2 H2 E2 p2 => ?_
  refine hh _ ρ2 own2 σ H2 E2 u _ h3 _ fun own3 H3 E3 p3 => ?_
  have p23 : Post (il.W ++ ih.W) own1 H1 [] own3 H3 := p2.trans p3
  have rr := r1.rep.over (U := ia.U ++ (il.U ++ ih.U)) r1.env p23 (seq_cond hq hg) fun j hj => List.mem_append_left _ hj
  rw [List.append_nil] at rr
  have fr : Rp K H3 (AV F (ia.U ++ (il.U ++ ih.U)) own3 []) (frz x) v1 [] := rr.frz fun a o e z => z.elim (fun z => ⟨z.1, fun y => (nomatch y), z.2.2⟩) fun z => ⟨r1.F_of E a z, fun y => (nomatch y), fun j _ y => E3.fr j a y (.inr z)⟩
  exact slD_ok fr h4 (Made.res E3.F1 (r1.drop.2.trans p23) q)
theorem ok_rev {a : Expr} {ia : E} {k : Nat} {p1 p2 p3 pos : Pos} (ha : EOk P w K mg base cf L a ia) : EOk P w K mg base cf L (.Subscript a (.Slice none none (some (.UnaryOp .USub (.Constant (.int 1) k p1) p2)) p3) pos) (.rev ia) := by
  intro F ρ own σ H E d ρ' h Q q
  rw [den] at h
  obtain ⟨x, ρ1, h1, h⟩ := R.bind_ok h
  refine ⟨tRevL K (We P w K mg base L a), fun X hX => by have e := hX.K; subst e; exact pe_revL (We.pe hX), ?_⟩
  refine ha F ρ own σ H E x ρ1 h1 _ fun v1 P1 own1 H1 r1 => ?_
  have fr := r1.frz E
  obtain ⟨E1, p1⟩ := r1.drop
  have rev : ∀ {xs : List D} {vs : List V}, Rps K H1 (AV F ia.U own1 []) xs vs [] → Rps K H1 (AV F ia.U own1 []) xs.reverse vs.reverse [] := by
    intro xs
    induction xs with
    | nil => intro vs h; rw [h.1]; exact ⟨rfl, rfl⟩
    | cons y ys ih =>
      intro vs h
      obtain ⟨v, r, P1, P2, e, ep, g1, g2⟩ := h
      have e0 := List.append_eq_nil_iff.mp ep.symm
      rw [e0.1] at g1
      rw [e0.2] at g2
      rw [e, List.reverse_cons, List.reverse_cons]
      exact Rps.append (P := []) (Q := []) (ih g2) (Rps.one g1)
  split at h
  · rename_i o xs hx
    cases h
    rw [hx] at fr
    obtain ⟨aa, vs, rfl, hs, rr⟩ := fr.lst0
    exact ⟨aa, vs, rfl, SqL.of hs, (Made.res E1 p1 q).lst (rev rr)⟩
  · rename_i xs hx
    cases h
    rw [hx] at fr
    obtain ⟨aa, vs, rfl, hs, rr⟩ := fr.rdScr
    exact ⟨aa, vs, rfl, hs, (Made.res E1 p1 q).lst (rev rr)⟩
  · cases h
end
end Mn

/-! Mn L: isinstance; what is walked. -/
namespace Mn
open PySem L2
def Ty.nm : Ty → String
  | .int => "int" | .bool => "bool" | .str => "str" | .list => "list" | .tuple => "tuple" | .dict => "dict" | .none => "NoneType"
theorem kit_isi (t c : Ty) (h : c ≠ .none) : kitB t.nm c.nm = some (isiT t c) := by
  cases c <;> first | exact absurd rfl h | (cases t <;> decide +kernel)
theorem boot_ty (c : Ty) (h : c ≠ .none) : bootBuiltins (Str.ofString c.nm) = some (.type c.nm) := by
  cases c <;> first | exact absurd rfl h | decide +kernel
theorem name_ty (c : Ty) : Str.ofString c.nm ≠ "__name__" ∧ (Str.ofString c.nm == ("__debug__" : Str)) = false := by
  cases c <;> exact ⟨by decide +kernel, by decide +kernel⟩
section
variable {P : Program} {w : World} {K : PySem.W.Frag} {mg : Str → Option Value} {base : Heap} {cf : Nat → List D → Option (D × List D)} {L : Lx}
theorem Rp.tyx {H : Hp} {A : AP} {d : D} {v : V} {P : List Addr} {t : Ty} (h : Rp K H A d v P) (e : tyD d = some t) : TyX K H v (.type t.nm) := by
  cases d <;> simp [tyD] at e <;> try subst e
  · rw [h.1]; exact .base .non
  · rw [h.1]; exact .base (.bl _)
  · rw [h.1]; exact .base (.int _)
  · rw [h.1]; exact .base (.str _)
  · obtain ⟨a, vs, rfl, hs, _⟩ := h
    rcases hs with (hs | ⟨o, hs⟩) | ⟨o, its, n, hs, hc, _⟩
    · exact .base (.tup hs)
    · exact .fTuple hs
    · exact .kTuple hs hc
  · rename_i o xs
    cases o with
    | true => obtain ⟨a, vs, P', rfl, hs, _⟩ := h; exact .base (.lst hs)
    | false => obtain ⟨a, vs, rfl, hs, _⟩ := h; exact .base (.lst hs)
  · obtain ⟨a, vs, rfl, hs, _⟩ := h
    rcases hs with ⟨o, hs⟩ | ⟨o, its, n, hk, hc, _⟩
    · exact .base (.frz hs)
    · exact .kList hk hc
  · rename_i o ks xs
    cases o with
    | true => obtain ⟨a, vs, P', rfl, hs, _⟩ := h; exact .base (.dK hs)
    | false => obtain ⟨a, vs, rfl, hs, _⟩ := h; exact .base (.dK hs)
theorem isi_core {a : Expr} {ia : E} {cs : List Ty} (ha : EOk P w K mg base cf L a ia) {F : AP} {ρ : Env} {own : Own} {σ : L2.St} {H : Hp} (E : EnvR K F ρ own σ H) {d : D} {ρ' : Env} (h : den cf (.isi ia cs) ρ = .ok d ρ') {Q : VK} {Z : VK}
    (q : ∀ v P' own' H', Res K F (Mn.E.isi ia cs).U (Mn.E.isi ia cs).W own H ρ' σ d v P' own' H' → Q v H') (hR : ∀ v H' t, TyX K H' v (.type (Ty.nm t)) → Q (.bl (cs.any (isiT t))) H' → Z v H') : We P w K mg base L a σ H Z := by
  rw [den] at h
  obtain ⟨x, ρ1, h1, h⟩ := R.bind_ok h
  obtain ⟨h2, rfl⟩ := R.opt_ok h
  obtain ⟨t, h3, rfl⟩ := Option.map_eq_some_iff.mp h2
  refine ha F ρ own σ H E x _ h1 _ fun v1 P1 own1 H1 r1 => ?_
  obtain ⟨E1, p1⟩ := r1.drop
  exact hR v1 H1 t (r1.rep.tyx h3) (q _ [] own1 H1 ⟨E1.F0', ⟨rfl, rfl⟩, List.nodup_nil, p1⟩)
theorem pe_tyn {X : Cx} {c : Ty} {p : Pos} (hX : InX P w K mg base L X) (hc : c ≠ .none) (hg : L.sc.names.lookup (Str.ofString c.nm) = some .globalImplicit) (hm : mg (Str.ofString c.nm) = none) : PE X (.Name (Str.ofString c.nm) p) (tC (.ty c.nm)) :=
  pe_bltn (v := .ty c.nm) (gl_of hX hg) (by rw [hX.mg]; exact hm) (boot_ty c hc) rfl (name_ty c).1 (name_ty c).2
theorem boot_isi : bootBuiltins "isinstance" = some (.builtin "isinstance") := by decide +kernel
theorem ok_isi1 {a : Expr} {ia : E} {c : Ty} {p p2 pos : Pos} (ha : EOk P w K mg base cf L a ia) (hc : c ≠ .none) (hg : L.sc.names.lookup (Str.ofString c.nm) = some .globalImplicit) (hm : mg (Str.ofString c.nm) = none)
    (hgi : L.sc.names.lookup (Str.ofString "isinstance") = some .globalImplicit) (hmi : mg (Str.ofString "isinstance") = none) (hs : ∀ x p, a ≠ .Starred x p) : EOk P w K mg base cf L (.Call (.Name (Str.ofString "isinstance") p) [a, .Name (Str.ofString c.nm) p2] [] pos) (.isi ia [c]) := by
  intro F ρ own σ H E d ρ' h Q q
  refine ⟨tCB (rIsi K) (tCons (We P w K mg base L a) (tCons (tC (.ty c.nm)) tNil)), fun X hX => ?_, ?_⟩
  · exact pe_callB (hX.K ▸ call_isi) (gl_of hX hgi) (by rw [hX.mg]; exact hmi) boot_isi (pa_cons (We.pe hX) (pa_cons (pe_tyn hX hc hg hm) pa_nil rfl) (star_of hs)) (by decide +kernel) (by decide +kernel) (star_of hs) rfl
  · refine isi_core ha E h q fun v H' t ty k => ?_
    refine ⟨v, _, _, _, isiT t c, rfl, .ty _, ty, kit_ty (kit_isi t c hc), ?_⟩
    simpa using k
theorem kitAny_ty {t : Ty} : ∀ {cs : List Ty}, (∀ c, c ∈ cs → c ≠ .none) → PySem.W.kitAny K (.type t.nm) (cs.map fun c => Value.type c.nm) = some (cs.any (isiT t))
  | [], _ => rfl
  | c :: cs, h => by
    rw [List.map_cons, List.any_cons]
    have e := kit_isi t c (h c List.mem_cons_self)
    refine kitAny_cons (kit_ty e) (fun e2 => ?_) fun e2 => by rw [e2]; rfl
    rw [e2, Bool.false_or]
    exact kitAny_ty fun c hc => h c (List.mem_cons_of_mem _ hc)
theorem pa_tys {X : Cx} (hX : InX P w K mg base L X) : ∀ {cs : List (Ty × Pos)}, (∀ c, c ∈ cs → c.1 ≠ .none ∧ L.sc.names.lookup (Str.ofString c.1.nm) = some .globalImplicit ∧ mg (Str.ofString c.1.nm) = none) →
    PA X (cs.map fun c => Expr.Name (Str.ofString c.1.nm) c.2) (fun _ H Q => Q (cs.map fun c => V.ty c.1.nm) H)
  | [], _ => ⟨fun pos pins s σ H Q I h => pa_nil.run pos pins s σ H Q I h⟩
  | c :: cs, h => ⟨fun pos pins s σ H Q I hq => (pa_cons (pe_tyn hX (h c List.mem_cons_self).1 (h c List.mem_cons_self).2.1 (h c List.mem_cons_self).2.2) (pa_tys hX fun c hc => h c (List.mem_cons_of_mem _ hc)) rfl).run pos pins s σ H Q I hq⟩
theorem ok_isiN {a : Expr} {ia : E} {cs : List (Ty × Pos)} {k : Nat} {p p2 pos : Pos} (ha : EOk P w K mg base cf L a ia) (hcs : ∀ c, c ∈ cs → c.1 ≠ .none ∧ L.sc.names.lookup (Str.ofString c.1.nm) = some .globalImplicit ∧ mg (Str.ofString c.1.nm) = none)
    (hgi : L.sc.names.lookup (Str.ofString "isinstance") = some .globalImplicit) (hmi : mg (Str.ofString "isinstance") = none) (hs : ∀ x p, a ≠ .Starred x p) (hl : cs.length ≤ 1000) :
    EOk P w K mg base cf L (.Call (.Name (Str.ofString "isinstance") p) [a, .Tuple (cs.map fun c => Expr.Name (Str.ofString c.1.nm) c.2) k p2] [] pos) (.isi ia (cs.map (·.1))) := by
  intro F ρ own σ H E d ρ' h Q q
  refine ⟨tCB (fun xs H Q => ∃ x tp, xs = [x, V.ref tp] ∧ rIsiT K xs H Q) (tCons (We P w K mg base L a) (tCons (tTup fun _ H Q => Q (cs.map fun c => V.ty c.1.nm) H) tNil)), fun X hX => ?_, ?_⟩
  · have cr : CallR X (.builtin "isinstance") (fun xs H Q => ∃ x tp, xs = [x, V.ref tp] ∧ rIsiT K xs H Q) := fun pins s σ H xs us Q I r ⟨_, _, _, h⟩ => (hX.K ▸ call_isiT : CallR X (.builtin "isinstance") (rIsiT K)) pins s σ H xs us Q I r h
    exact pe_callB cr (gl_of hX hgi) (by rw [hX.mg]; exact hmi) boot_isi (pa_cons (We.pe hX) (pa_cons (pe_tup (pa_tys hX hcs)) pa_nil rfl) (star_of hs)) (by decide +kernel) (by decide +kernel) (star_of hs) rfl
  · rw [den] at h
    obtain ⟨x, ρ1, h1, h⟩ := R.bind_ok h
    obtain ⟨h2, rfl⟩ := R.opt_ok h
    obtain ⟨t, h3, rfl⟩ := Option.map_eq_some_iff.mp h2
    refine ha F ρ own σ H E x _ h1 _ fun v1 P1 own1 H1 r1 => ?_
    obtain ⟨E1, p1⟩ := r1.drop
    refine ⟨by rw [List.length_map]; exact Nat.le_trans hl (by decide), fun tp hp => ?_⟩
    refine ⟨_, tp, rfl, v1, tp, _, _, _, _, rfl, upd_same, ?_, (r1.rep.mono (A' := fun _ => True) (fun b o e _ => Ext.new hp b o e) fun _ _ _ _ => trivial).tyx h3, kitAny_ty (cs := cs.map (·.1)) fun c hc => ?_, ?_⟩
    · rw [List.map_map]
      have : ∀ l : List (Ty × Pos), Paired ClsV (l.map fun c => V.ty c.1.nm) (l.map ((fun c => Value.type c.nm) ∘ fun x => x.1)) := fun l => by induction l with
        | nil => exact .nil
        | cons c l ih => exact .cons (.ty _) ih
      exact this cs
    · obtain ⟨c', hc', rfl⟩ := List.mem_map.mp hc
      exact (hcs c' hc').1
    · refine q _ [] own1 _ ⟨(E1.ext (P := []) (Ext.new hp) (fun _ z => nomatch z) fun _ z => nomatch z), ⟨rfl, rfl⟩, List.nodup_nil, p1.ext (Ext.new hp) fun _ z => nomatch z⟩
end
end Mn

/-! Mn La: enumerate of a tuple. -/
namespace Mn
open PySem PySem.Spec PyProof.Rows L2
section
variable {pr : Program} {wo : World} {A : Around}
/-- a tuple's iterator as a thing that draws -/
theorem drawsTup (calm : A.handled = none) {ti ta : Addr} (ne : ta ≠ ti) (vs : Array Value) :
    Draws pr wo A ti [ti, ta] vs.size (fun k v => vs[k]? = some v) (fun k hp => hp.IsTupleIter ti ta k ∧ hp.IsTuple ta vs) where
  live := fun k hp z => by
    obtain ⟨⟨o, e, _⟩, _⟩ := z
    exact ⟨o, e⟩
  frame := fun k hp hp' z keep => ⟨z.1.at fun o e => keep ti List.mem_cons_self o e, by
    obtain ⟨_, o, e, r⟩ := z
    exact ⟨o, keep ta (List.mem_cons_of_mem _ List.mem_cons_self) o e, r⟩⟩
  item := fun k sh Q F lt z go => by
    have e : vs[k]? = some vs[k] := Array.getElem?_eq_getElem lt
    exact RZ.nextOf_tuple_item z.1 z.2 e fun hp' z' sb => go _ hp' sh.toks e ⟨z', z.2.extBut sb.extBut ne⟩ sb
  done := fun sh Q F z go => RZ.nextOf_tuple_end calm z.1 z.2 (Array.getElem?_eq_none (Nat.le_refl _)) go
theorem newEnumTup (ta : Addr) (vs : Array Value) :
    Meets (Builtin.«enumerate.__new__» ⟨[.type "enumerate", .ref ta], []⟩) (fun _ R sh => sh.heap.IsTuple ta vs ∧
      R (.ok (.ret (.ref (sh.heap.push { cls := .type "tuple_iterator", data := .fields #[.ref ta, .int 0 0] }).objs.size)))
        { sh with heap := (sh.heap.push { cls := .type "tuple_iterator", data := .fields #[.ref ta, .int 0 0] }).push { cls := .type "enumerate", data := .fields #[.none, .bool false, .ref sh.heap.objs.size, rawInt 0, .none, .none] } }) :=
  .of_wp fun pr wo A R sh z => by
    obtain ⟨hp, g, d, tk, os⟩ := sh
    obtain ⟨isT, z⟩ := z
    have hsub := sub_enumerate
    have tup : Heap.IsTuple (Shared.heap ⟨hp, g, d, tk, os⟩) ta vs := isT
    wp_walk using wpAny_pyIter_tuple tup
    refine wpAny_stack_any fun st => wpAny_pure ?_
    split
    · rename_i c _ _ _ _ _
      cases (c == Value.type "enumerate") <;> (wp_walk using wpAny_pyIter_tuple tup; exact ⟨_, rfl, z⟩)
    · wp_walk using wpAny_pyIter_tuple tup
      exact ⟨_, rfl, z⟩
theorem callEnumTup {E : Value → Shared → Prop} {sh : Shared} {ta : Addr} {vs : Array Value} {Q : Value → Shared → Prop} (isT : sh.heap.IsTuple ta vs)
    (go : ∀ hp', IsEnum hp' (sh.heap.objs.size + 1) sh.heap.objs.size 0 .none → hp'.IsTupleIter sh.heap.objs.size ta 0 → (∀ b o, sh.heap.get? b = some o → hp'.get? b = some o) → Q (.ref (sh.heap.objs.size + 1)) { sh with heap := hp' }) :
    wpAny (model pr wo) A (call (.type "enumerate") [.ref ta]) Q E sh := by
  refine callType_new F.called_enumerate (by decide) (F.typeCall_enumerate_1 _) (F.newCall_enumerate_1 _) (fun ob => F.args_object_init_2 ob _) F.entry_enumerate_new (newEnumTup ta vs) ⟨isT, ?_⟩
  generalize eO : ({ cls := .type "tuple_iterator", data := .fields #[.ref ta, .int 0 0] } : Obj) = O1
  have f1 : O1.isFreed = false := by rw [← eO]; rfl
  have z1 : (sh.heap.push O1).objs.size = sh.heap.objs.size + 1 := Heap.size_push ..
  generalize eP : ({ cls := .type "enumerate", data := .fields #[.none, .bool false, .ref sh.heap.objs.size, rawInt 0, .none, .none] } : Obj) = O2
  have f2 : O2.isFreed = false := by rw [← eP]; rfl
  have g2 : ((sh.heap.push O1).push O2).get? (sh.heap.objs.size + 1) = some O2 := by rw [← z1]; exact Heap.get?_push_size _ f2
  have g1 : ((sh.heap.push O1).push O2).get? sh.heap.objs.size = some O1 := Heap.get?_push_of_some _ (Heap.get?_push_size _ f1)
  show _ ∧ _
  rw [z1]
  refine ⟨⟨O2, g2, by rw [← eP]⟩, go _ (by rw [← eP] at g2 ⊢; exact g2) ⟨O1, g1, by rw [← eO], by rw [← eO]; rfl⟩ fun b o e => Heap.get?_push_of_some _ (Heap.get?_push_of_some _ e)⟩
end
theorem enumEndT {E : Value → Shared → Prop} {sh : Shared} {pr : Program} {wo : World} {A : Around} {ea ti ta : Addr} {k : Nat} {vs : Array Value} {old : Value} {Q : Option Value → Shared → Prop} (calm : A.in1.handled = none) (en : IsEnum sh.heap ea ti k old) (tt : sh.heap.IsTupleIter ti ta k) (isT : sh.heap.IsTuple ta vs) (out : vs[k]? = none)
    (go : ∀ hp', Heap.ExtBut ti sh.heap hp' → Q none { sh with heap := hp' }) : wpAny (model pr wo) A (pyNext (.ref ea)) Q E sh := by
  have ty : sh.TypeIs (.ref ea) "enumerate" := ⟨_, en, rfl⟩
  unfold pyNext
  refine wpAny_bind (wpAny_attempt (wpAny_callSpecial?_slot (name := Str.ofString "__next__") ty F.slot_enumerate_next (wpAny_call_entry F.slot_enumerate_next ty F.entry_enumerate_next ?_ (F.args_enumerate_next_1 _))))
  show wpAny _ _ (field (.ref ea) 2 >>= _) _ _ _
  refine wpAny_bind (wpAny_field en rfl (x := .ref ti) rfl ?_)
  refine wpAny_bind (RZ.nextOf_tuple_end calm tt isT out fun hp' x eb ⟨o, ho, hc⟩ => ?_)
  exact wpAny_bind (wpAny_isInstance (T := "StopIteration") (b := true) ⟨o, ho, hc⟩ isSubtype_stop (wpAny_pure (go _ eb)))
/-- the tuple's items in new pairs with their numbers -/
def IteT (K : PySem.W.Frag) (ta : Addr) : It :=
  ⟨fun k H => ∃ (xs : List V) (x : V), SqT K H ta xs ∧ xs[k]? = some x,
    fun k H v H' => ∃ T x, v = .ref T ∧ H T = none ∧ H' = upd H T (.tup [.int (k : Nat), x]) ∧ ∀ zs, SqT K H ta zs → zs[k]? = some x,
    fun k H => ∃ zs : List V, SqT K H ta zs ∧ zs.length ≤ k⟩
theorem turnEnumT {pr : Program} {wo : World} {K : PySem.W.Frag} {elts : List Expr} {kk : Nat} {tpos : Pos} {ta ea ti : Addr} (n1 : ea ≠ ti) (n2 : ta ≠ ti) (n3 : ea ≠ ta) :
    Turn pr wo K (.Tuple elts kk tpos) (IteT K ta) [ea, ti] ea (fun k hp => (∃ old, IsEnum hp ea ti ((k : Nat) : Int) old) ∧ hp.IsTupleIter ti ta k) where
  mem := List.mem_cons_self
  obj := fun k hp z b hb => by
    obtain ⟨⟨old, en⟩, o, e, _, dd⟩ := z
    rcases List.mem_cons.mp hb with rfl | hb
    · exact ⟨_, en, fun v q => nomatch q⟩
    · rw [List.mem_singleton.mp hb]
      exact ⟨o, e, fun v q => by rw [dd] at q; cases q⟩
  keep := fun k hp hp' z keep => by
    obtain ⟨⟨old, en⟩, tt⟩ := z
    exact ⟨⟨old, keep ea List.mem_cons_self _ en⟩, tt.at fun o e => keep ti (List.mem_cons_of_mem _ List.mem_cons_self) o e⟩
  item := by
    intro X pe we ke calm k pins sh σ H E I fresh z gg
    subst pe we ke
    obtain ⟨⟨old, en⟩, tt⟩ := z
    obtain ⟨xs, x, hq, hx⟩ := gg
    obtain ⟨its, rv, isT, _⟩ := I.tuple hq
    obtain ⟨u, hu, ru⟩ := rv.get hx
    have lea : ea < sh.heap.objs.size := Heap.lt_size en
    have lti : ti < sh.heap.objs.size := by
      obtain ⟨o, e, _⟩ := tt
      exact Heap.lt_size e
    have cc : X.A.in1.handled = none := I.ok.hd calm
    have kl : k < its.toArray.size := by
      have := (List.getElem?_eq_some_iff.mp hu).1
      simpa using this
    refine wpAny_pyNext_enum_itemD (drawsTup cc n2 its.toArray) en ⟨tt, isT⟩ kl n1 (by simp [n1, n3]) fun v hp' tk hv eo z' gT _ keep => ?_
    have ev : v = u := by
      have hv : its.toArray[k]? = some v := hv
      rw [show its.toArray[k]? = some u by simpa using hu] at hv
      exact (Option.some.inj hv).symm
    subst ev
    refine ⟨_, rfl, wpAny_letOwnedTupleGo_enum (s := { sh with heap := hp', toks := tk + 1 }) eo fun hp2 e2 sb => ?_⟩
    have gT2 : hp2.get? sh.heap.objs.size = some { cls := .type "tuple", data := .seq #[.int k tk, v] } := (sb.2 _ (Nat.ne_of_gt lea)).trans gT
    have made : ObjOk X.prog X.w (upd H sh.heap.objs.size (.tup [.int (k : Nat), x])) hp2 sh.heap.objs.size (.tup [.int (k : Nat), x]) :=
      ⟨(by decide : 2 ≤ sizeLine), [.int k tk, v], .cons ⟨_, rfl⟩ (.cons ru .nil), _, gT2, rfl, _, rfl⟩
    have I1 : Inv X pins σ (upd H sh.heap.objs.size (.tup [.int (k : Nat), x])) { sh with heap := hp2, toks := tk + 1 } :=
      I.turnedNew (ch := [ea, ti]) (fun b ob nb e => (sb.2 b fun y => nb (by simp [y])).trans (keep b ob (fun y => nb (by simp [y])) (fun y => nb (by simp [y])) e)) fresh (Nat.le_refl _) made
    refine ⟨.ref sh.heap.objs.size, _, I1, rfl, ⟨_, x, rfl, I.hok.fresh (Nat.le_refl _), rfl, fun zs hz => by rw [I.tuple_inj hz hq]; exact hx⟩, ⟨⟨v, ?_⟩, z'.1.at fun o e => (sb.2 ti n1.symm).trans e⟩, fun b hb => ?_⟩
    · rw [show ((k + 1 : Nat) : Int) = (k : Int) + 1 by omega]
      exact e2
    · have lb : b < sh.heap.objs.size := by
        rcases List.mem_cons.mp hb with rfl | hb
        · exact lea
        · rw [List.mem_singleton.mp hb]; exact lti
      rw [upd_ne (Nat.ne_of_lt lb)]
      exact (fresh b hb).1
  done := by
    intro X pe we ke calm k pins sh σ H E I fresh z gg
    subst pe we ke
    obtain ⟨⟨old, en⟩, tt⟩ := z
    obtain ⟨xs, hq, hx⟩ := gg
    obtain ⟨its, rv, isT, _⟩ := I.tuple hq
    have cc : X.A.in1.handled = none := I.ok.hd calm
    obtain ⟨f0, f1, f2, f3, f4, f5⟩ := fresh ti (List.mem_cons_of_mem _ List.mem_cons_self)
    have hl := rv.length
    exact enumEndT cc en tt isT (by simp; omega) fun hp' eb => ⟨rfl, I.turned (t' := sh.toks) (fun b o nb e => eb b o nb e) f0 f1 f3 f4 f5⟩
  self := fun A k sh Q E z go => by
    obtain ⟨⟨old, en⟩, _⟩ := z
    exact wpAny_pyIter_enum en go
def iEnumA (K : PySem.W.Frag) (ta : TA) : TI := fun σ H R => ta σ H fun vs H1 => ∃ a xs, vs = [.ref a] ∧ ((SqL K H1 a xs ∧ R (Ite K a) H1) ∨ (SqT K H1 a xs ∧ R (IteT K a) H1))
theorem pi_enumA {X : Cx} {e : Expr} {ta : TA} {p pos tpos : Pos} {elts : List Expr} {kk : Nat} (hg : Gl X "enumerate") (hm : X.mg "enumerate" = none) (ha : PA X [e] ta) (hs : starEach [e] X.env = [(false, eval e X.env)]) :
    PI X (.Tuple elts kk tpos) (.Call (.Name "enumerate" p) [e] [] pos) (iEnumA X.K ta) := by
  refine ⟨fun pins sh σ H R I h => ?_⟩
  refine Call_ (ld_blt I hg hm boot_enumerate (PyProof.Rows.callWith_type1 (thn (ha.run pos pins sh σ H _ I h) fun us s1 ⟨vs, H1, I1, r1, q1⟩ => ?_) hs rfl))
  obtain ⟨a, xs, ex, q1⟩ := q1
  subst ex
  rcases r1 with _ | ⟨r, rr⟩
  · cases rr
    cases r
    have fresh2 : ∀ b, b ∈ [s1.heap.objs.size + 1, s1.heap.objs.size] → FpOk X pins H1 b := fun b hb => by
      have le : s1.heap.objs.size ≤ b := by
        rcases List.mem_cons.mp hb with rfl | hb
        · omega
        · rw [List.mem_singleton.mp hb]; exact Nat.le_refl _
      exact I1.fpOk le (I1.hok.fresh le)
    rcases q1 with ⟨hq, q⟩ | ⟨hq, q⟩
    · obtain ⟨its, rv, isL, _⟩ := I1.list hq
      refine call_enumerate_list isL.isList fun hp' en tt _ keep => wpAny_pyIter_enum en ?_
      exact ⟨s1.heap.objs.size + 1, [s1.heap.objs.size + 1, s1.heap.objs.size], _, _, H1, rfl, I1.kept (t' := s1.toks) keep, turn_enum a (s1.heap.objs.size + 1) s1.heap.objs.size, ⟨⟨.none, en⟩, tt, Nat.succ_ne_self _⟩, fresh2, q⟩
    · obtain ⟨its, rv, isT, _⟩ := I1.tuple hq
      have la : a < s1.heap.objs.size := by
        obtain ⟨o, e, _⟩ := id isT
        exact Heap.lt_size e
      refine callEnumTup isT fun hp' en tt keep => wpAny_pyIter_enum en ?_
      exact ⟨s1.heap.objs.size + 1, [s1.heap.objs.size + 1, s1.heap.objs.size], _, _, H1, rfl, I1.kept (t' := s1.toks) keep, turnEnumT (Nat.succ_ne_self _) (Nat.ne_of_lt la) (Nat.ne_of_gt (Nat.lt_succ_of_lt la)), ⟨⟨.none, en⟩, tt⟩, fresh2, q⟩
end Mn

/-! Mn Lb: sorted(set(a list of numbers)). -/
namespace Mn
open PySem PySem.Spec PyProof.Rows L2
abbrev eSet (w : World) : Obj := { cls := .type "set", dict := none, data := .set #[] 0 (.fresh 0 0 (!w.params.followText "set-order")) }
section
variable {Pr : Program} {wo : World} {Ar : Around} {Ex : Value → Shared → Prop} {sh : Shared}
set_option maxHeartbeats 8000000 in
theorem setOfList {la : Addr} {us : Array Value} (ks : List Int) {Q : Value → Shared → Prop} (calm : Ar.handled = none) (isL : sh.heap.IsList la us) (ni : IntsAre us.toList ks) (few : ks.length + 1 < scanBound)
    (go : ∀ (hp' : Heap) (tk c : Nat), SetR wo hp' sh.heap.objs.size (fun j => decide (j ∈ ks)) c → c ≤ ks.length → (∀ b o, sh.heap.get? b = some o → hp'.get? b = some o) → Q (.ref sh.heap.objs.size) { sh with heap := hp', toks := tk }) :
    wpAny (model Pr wo) Ar (call (.type "set") [.ref la]) Q Ex sh := by
  have sz : us.size = ks.length := by
    have := IntsAre.length ni
    rwa [Array.length_toList] at this
  obtain ⟨_, _, mro⟩ := F.called_set.mro
  have made := F.called_set.made
  have subs := F.called_set.sub
  refine wpAny_call (codeAny_of_tree ?_)
  show wpAny _ _ (callAny (.type "set") _) _ _ _
  refine wpAny_pure ⟨Code.quiet_builtin _ (by decide +kernel), codeAny_builtin F.entry_type_call ?_⟩
  rw [Around.under_plain (weight_type_call_type "set" [.ref la] []) rfl]
  have f1 := F.called_set.notType
  have f2 := F.called_set.canCreate
  have f3 := F.typeCall_set_1 (.ref la)
  repeat (any_goals (first | assumption | wp_step))
  refine codeAny_mono (code_set_led1 (.ref la) (E := Ex) (Q₁ := fun ob s1 => ob = .ref sh.heap.objs.size ∧ s1 = { sh with heap := sh.heap.push (eSet wo) }) ⟨rfl, rfl⟩) fun r s1 hr => ?_
  rcases r with e | fl
  · exact hr
  rcases fl with ob | _
  rotate_left
  all_goals first | exact hr.elim | skip
  obtain ⟨rfl, rfl⟩ := hr
  have gS : (sh.heap.push (eSet wo)).get? sh.heap.objs.size = some (eSet wo) := Heap.get?_push_size _ rfl
  have ty : Shared.TypeIs { sh with heap := sh.heap.push (eSet wo) } (.ref sh.heap.objs.size) "set" := ⟨_, gS, rfl⟩
  have f4 := F.called_set.init.lookup
  have f5 := F.called_set.init.bind (.ref sh.heap.objs.size)
  repeat (any_goals (first | assumption | wp_step))
  refine codeAny_mono (codeAny_call_builtin (R := wants (fun r s2 => r = .none ∧ ∃ hp' tk c, s2 = { sh with heap := hp', toks := tk } ∧ SetR wo hp' sh.heap.objs.size (fun j => decide (j ∈ ks)) c ∧ c ≤ ks.length ∧
    ∀ b o, sh.heap.get? b = some o → hp'.get? b = some o) Ex) F.called_set.init.plain F.entry_set_init (check_set_init_1 ty ?_)) fun r2 s2 hr2 => ?_
  · obtain ⟨⟨oc, od, oi, os⟩, gL, cL, nL, dL⟩ := isL
    simp only at cL dL
    subst cL
    subst dL
    have gL2 : (sh.heap.push (eSet wo)).get? la = some { cls := .type "list", dict := od, data := .seq us nL, slots := os } := Heap.get?_push_of_some _ gL
    have f6 := F.sub_list_set
    have f7 := F.sub_list_frozenset
    have f8 : (Value.type "list" == Value.type "dict") = false := by decide
    have isL2 : (sh.heap.push (eSet wo)).IsList la us := ⟨_, gL2, rfl, nL, rfl⟩
    unfold Builtin.«set.__init__» noKeywords Builtin.Frozenset.updateFrom
    generalize walker : pyIter = PI
    wp_walk
    subst walker
    refine wpAny_pyIter_list isL2 (wpAny_bind (wpAny_runValue ?_))
    have lt : la < sh.heap.objs.size := Heap.lt_size gL
    have calm3 : Ar.in1.in1.in1.handled = none := by simp [calm]
    have size1 : (sh.heap.push (eSet wo)).objs.size = sh.heap.objs.size + 1 := Heap.size_push ..
    have ne1 : la ≠ (sh.heap.push (eSet wo)).objs.size := by rw [size1]; exact Nat.ne_of_lt (Nat.lt_succ_of_lt lt)
    have ne2 : sh.heap.objs.size ∉ [(sh.heap.push (eSet wo)).objs.size, la] := fun z => by
      rw [size1] at z
      rcases List.mem_cons.mp z with z | z
      · exact Nat.succ_ne_self _ z.symm
      · exact Nat.ne_of_gt lt (List.mem_singleton.mp z)
    have val : ∀ (i : Nat) (v : Value), us[i]? = some v → ∃ k t, ks[i]? = some k ∧ v = .int k t := fun i v hv => by
      have hi : i < ks.length := by rw [← sz]; exact (Array.getElem?_eq_some_iff.mp hv).1
      obtain ⟨t, e⟩ := IntsAre.int_at ni i v (by rw [Array.getElem?_toList]; exact hv)
      refine ⟨ks[i], t, List.getElem?_eq_getElem hi, ?_⟩
      rw [List.getD_eq_getElem?_getD, List.getElem?_eq_getElem hi] at e
      exact e
    refine set_update_ints ((Walks.list calm3 _ la ne1 us).toS) sh.heap.objs.size ne2 ks sz few val (us.size - 0) 0 _ (by omega) (Nat.zero_le _) ⟨⟨_, Heap.get?_push_size _ rfl, rfl, rfl⟩, isL2.push _⟩ ⟨0, Nat.le_refl 0, setR_new_at (Heap.get?_push_of_some _ gS)⟩ ?_
    intro s3 c3 mv hc3 hS3
    obtain ⟨hp3, g3, d3, tk3, os3⟩ := s3
    have eg : g3 = sh.gens := mv.gens
    have ed : d3 = sh.drawn := mv.drawn
    have eo : os3 = sh.os := mv.os
    subst eg
    subst ed
    subst eo
    show wpAny _ _ _ _ _ _
    refine wpAny_pure ?_
    show wpAny _ _ (ret Value.none) _ _ _
    rw [sz] at hc3
    refine wpAny_pure ⟨rfl, hp3, tk3, c3, rfl, hS3, hc3, fun b o e => ?_⟩
    have lb : b < sh.heap.objs.size := Heap.lt_size e
    refine mv.heap b o (fun z => ?_) (Heap.get?_push_of_some _ (Heap.get?_push_of_some _ e))
    rcases List.mem_cons.mp z with z | z
    · exact Nat.ne_of_lt lb z
    · have z := List.mem_singleton.mp z
      rw [size1] at z
      exact Nat.ne_of_lt (Nat.lt_succ_of_lt lb) z
  · rcases r2 with e | fl
    · exact hr2
    rcases fl with r3 | _
    rotate_left
    all_goals first | exact hr2.elim | skip
    obtain ⟨rfl, hp3, tk3, c3, rfl, hS3, hc3, keep3⟩ := hr2
    repeat (any_goals (first | assumption | wp_step))
    exact go _ _ _ hS3 hc3 keep3
end
end Mn

/-! Mn Lc: sorted(set(a list of numbers)), the rule. -/
namespace Mn
open PySem PySem.Spec PyProof.Rows L2
theorem insU_mem {k j : Int} : ∀ {xs : List Int}, j ∈ insU k xs ↔ j = k ∨ j ∈ xs
  | [] => by simp [insU]
  | x :: xs => by
    unfold insU
    by_cases h1 : k < x
    · rw [if_pos h1]; simp
    · rw [if_neg h1]
      by_cases h2 : k = x
      · rw [if_pos h2]; subst h2; simp
      · rw [if_neg h2, List.mem_cons, insU_mem, List.mem_cons]
        exact ⟨fun z => z.elim (fun z => .inr (.inl z)) fun z => z.imp id .inr, fun z => z.elim (fun z => .inr (.inl z)) fun z => z.imp id .inr⟩
theorem insU_sorted {k : Int} : ∀ {xs : List Int}, xs.Pairwise (· < ·) → (insU k xs).Pairwise (· < ·)
  | [], _ => by simp [insU]
  | x :: xs, h => by
    obtain ⟨h1, h2⟩ := List.pairwise_cons.mp h
    unfold insU
    by_cases c1 : k < x
    · rw [if_pos c1]
      refine List.pairwise_cons.mpr ⟨fun y hy => ?_, h⟩
      rcases List.mem_cons.mp hy with rfl | hy
      · exact c1
      · exact Int.lt_trans c1 (h1 y hy)
    · rw [if_neg c1]
      by_cases c2 : k = x
      · rw [if_pos c2]; exact h
      · rw [if_neg c2]
        refine List.pairwise_cons.mpr ⟨fun y hy => ?_, insU_sorted h2⟩
        rcases insU_mem.mp hy with rfl | hy
        · omega
        · exact h1 y hy
theorem srt_mem {j : Int} : ∀ {ks : List Int}, j ∈ srt ks ↔ j ∈ ks
  | [] => by simp [srt]
  | k :: ks => by
    show j ∈ insU k (srt ks) ↔ _
    rw [insU_mem, srt_mem, List.mem_cons]
theorem srt_sorted : ∀ {ks : List Int}, (srt ks).Pairwise (· < ·)
  | [] => List.Pairwise.nil
  | k :: ks => insU_sorted (srt_sorted (ks := ks))
theorem rising_eq : ∀ {xs ys : List Int}, xs.Pairwise (· < ·) → ys.Pairwise (· < ·) → (∀ k, k ∈ xs ↔ k ∈ ys) → xs = ys
  | [], [], _, _, _ => rfl
  | [], y :: ys, _, _, h => nomatch (h y).mpr List.mem_cons_self
  | x :: xs, [], _, _, h => nomatch (h x).mp List.mem_cons_self
  | x :: xs, y :: ys, hx, hy, h => by
    obtain ⟨x1, x2⟩ := List.pairwise_cons.mp hx
    obtain ⟨y1, y2⟩ := List.pairwise_cons.mp hy
    have e : x = y := by
      rcases List.mem_cons.mp ((h x).mp List.mem_cons_self) with e | e
      · exact e
      · rcases List.mem_cons.mp ((h y).mpr List.mem_cons_self) with f | f
        · exact f.symm
        · have := y1 x e
          have := x1 y f
          omega
    subst e
    congr 1
    refine rising_eq x2 y2 fun k => ⟨fun hk => ?_, fun hk => ?_⟩
    · rcases List.mem_cons.mp ((h k).mp (List.mem_cons_of_mem _ hk)) with rfl | z
      · exact absurd (x1 _ hk) (Int.lt_irrefl _)
      · exact z
    · rcases List.mem_cons.mp ((h k).mpr (List.mem_cons_of_mem _ hk)) with rfl | z
      · exact absurd (y1 _ hk) (Int.lt_irrefl _)
      · exact z
theorem insU_len {k : Int} : ∀ {xs : List Int}, k ∉ xs → (insU k xs).length = xs.length + 1
  | [], _ => rfl
  | x :: xs, h => by
    unfold insU
    have h1 : k ≠ x := fun z => h (z ▸ List.mem_cons_self)
    by_cases c1 : k < x
    · rw [if_pos c1]; rfl
    · rw [if_neg c1, if_neg h1, List.length_cons, insU_len (fun z => h (List.mem_cons_of_mem _ z)), List.length_cons]
theorem srt_len : ∀ {ks : List Int}, ks.Nodup → (srt ks).length = ks.length
  | [], _ => rfl
  | k :: ks, h => by
    obtain ⟨h1, h2⟩ := List.nodup_cons.mp h
    show (insU k (srt ks)).length = _
    rw [insU_len (fun z => h1 (srt_mem.mp z)), srt_len h2, List.length_cons]
def tSrt (K : PySem.W.Frag) (ta : TE) : TE := fun σ H Q => ta σ H fun x H1 => ∃ (la : Addr) (ks : List Int), x = .ref la ∧ SqL K H1 la (ks.map V.int) ∧ (ks.length ≤ 4000 ∧ (srt ks).length ≤ 4000) ∧ ∀ p, H1 p = none → Q (.ref p) (upd H1 p (.lst ((srt ks).map V.int)))
theorem intsOf : ∀ {ks : List Int} {us : List Value}, Vals (ks.map V.int) us → IntsAre us ks
  | [], _, .nil => .nil
  | k :: ks, _, .cons r t => by
    obtain ⟨z, rfl⟩ := r
    exact .cons k z (intsOf t)
theorem sortedSetB {Pr : Program} {wo : World} {Ar : Around} {Ex : Value → Shared → Prop} {sh : Shared} {aa : Addr} {S : Int → Bool} {n : Nat} {Q : Value → Shared → Prop} (R : SetR wo sh.heap aa S n) (calm : Ar.handled = none) (few : n ≤ sizeLine)
    (go : ∀ s2 p (out : Array Value) (c : Nat) (ns : List Int), (∀ b o, sh.heap.get? b = some o → s2.heap.get? b = some o) → s2.gens = sh.gens → s2.os = sh.os → sh.heap.objs.size ≤ p → s2.heap.get? p = some (seqObj "list" out c) → IntsAre out.toList ns → ns.Pairwise (· < ·) → (∀ k, k ∈ ns ↔ S k = true) → ns.length = n → Q (.ref p) s2) :
    wpAny (model Pr wo) Ar (call (.builtin "sorted") [.ref aa]) Q Ex sh := by
  obtain ⟨ob, es, ep, t, hob, hex, hda, good, nodup, mem, hb, hf, cnt, hr, hl⟩ := R
  refine Calls.call_function_entry kind_sorted plain_sorted entry_sorted (args_sorted1 (.ref aa)) ?_
  unfold Builtin.«sorted»
  refine wpAny_bind (m := checkCount "sorted" 1 1 _) (wpAny_pure (wpAny_bind (collect_set (A := Ar.in1) calm ⟨ob, hob, hex.1, hda⟩ hf hb hr hl fun s1 vs keep1 sz1 ge os pm => ?_)))
  have lenv : vs.length = n := by rw [pm.length_eq, List.length_map, Array.length_toList]; exact cnt
  have intv := ints_of vs fun v hv => by
    obtain ⟨e, he, q⟩ := List.mem_map.mp (pm.mem_iff.mp hv)
    obtain ⟨k, tk, h1, _⟩ := good e he
    exact ⟨k, tk, q ▸ h1⟩
  have pkey : (vs.map Builtin.Re.reRawOf).Perm (es.toList.map keyOf) := by
    have := pm.map Builtin.Re.reRawOf
    rwa [List.map_map] at this
  have lz : vs.length ≤ sizeLine := lenv ▸ few
  refine wpAny_bind (wpAny_newList ?_ lz)
  have there : (s1.heap.push (seqObj "list" vs.toArray 0)).get? s1.heap.objs.size = some (seqObj "list" vs.toArray 0) := Heap.get?_push_size _ rfl
  refine wpAny_bind (wpAny_holding (wpAny_call_entry slot_list_sort ⟨_, there, rfl⟩ entry_list_sort (SrtO.list_sort_ord SrtO.swo_int there lz (fun h2 => SrtO.ints_sortable intv h2) fun out h1 h2 => ⟨.none, rfl, ?_⟩) (args_list_sort (.ref _))))
  obtain ⟨k1, k2, k3⟩ := SrtO.ints_out intv h1 h2
  obtain ⟨c, hc⟩ := sortedHeap_at (vs := vs) (out := out.toArray) there
  have pall := k2.trans pkey
  refine wpAny_pure ⟨_, rfl, go _ s1.heap.objs.size out.toArray c (out.map SrtO.iv) (fun b u e => ?_) ge os sz1 hc k1 (lt_of_le_nodup _ k3 (pall.nodup_iff.mpr nodup)) (fun k => (pall.mem_iff (a := k)).trans (mem k).symm) ?_⟩
  · have old := keep1 b u e
    have lt := Heap.lt_size old
    show (sortedHeap (s1.heap.push (seqObj "list" vs.toArray 0)) s1.heap.objs.size vs out.toArray).get? b = some u
    rw [sortedHeap_old (Nat.ne_of_lt lt) (by rw [Heap.size_push]; exact Nat.lt_succ_of_lt lt)]
    exact Heap.get?_push_of_some _ old
  · rw [pall.length_eq, List.length_map, Array.length_toList]; exact cnt
theorem pe_srt {X : Cx} {a : Expr} {ta : TE} {p p2 q pos : Pos} (hg : Gl X "sorted") (hm : X.mg "sorted" = none) (hg2 : Gl X "set") (hm2 : X.mg "set" = none) (ha : PE X a ta) (calm : X.calm = true)
    (na : starEach [a] X.env = (false, eval a X.env) :: starEach [] X.env) : PE X (.Call (.Name "sorted" p) [.Call (.Name "set" p2) [a] [] q] [] pos) (tSrt X.K ta) := by
  refine ⟨fun pins sh σ H Q I h => ?_⟩
  refine Call_ (ld_blt I hg hm boot_sorted (callWith_builtin1 (args_cons ?_ rfl) rfl rfl))
  refine Call_ (ld_blt I hg2 hm2 boot_set (callWith_type1 (args_cons (thn (ha.run pins sh σ H _ I h) fun v s1 ⟨x, H1, I1, r1, q1⟩ => args_nil ?_) na) na rfl))
  obtain ⟨la, ks, rfl, hq, hl, q1⟩ := q1
  cases r1
  obtain ⟨us, r, isL, _⟩ := I1.list hq
  refine setOfList ks (I1.ok.hd calm) isL.isList (by simpa using intsOf r) (by unfold scanBound; omega) fun hp' tk c hS hc keep => args_nil ?_
  have I2 : Inv X pins σ H1 { s1 with heap := hp', toks := tk } := I1.kept keep
  have hc64 : c ≤ sizeLine := by
    obtain ⟨_, es, _, _, _, _, _, _, nd, hmk, _, _, hsz, _, _⟩ := hS
    have := srt_len nd
    have e : srt (es.toList.map keyOf) = srt ks := rising_eq srt_sorted srt_sorted fun k => by
      rw [srt_mem, srt_mem, ← hmk]
      simp
    rw [e, List.length_map] at this
    have h3 : es.toList.length = es.size := Array.length_toList
    rw [show sizeLine = 16777216 by decide]
    omega
  refine sortedSetB hS (I2.ok.hd calm) hc64 fun s3 p3 out c3 ns keep3 eg eo hp hgt hi hs hmm hln => ?_
  have e0 : ns = srt ks := rising_eq hs srt_sorted fun k => by rw [hmm, srt_mem]; simp
  subst e0
  have fresh : H1 p3 = none := I2.hok.fresh hp
  have small : ((srt ks).map V.int).length ≤ sizeLine := by
    rw [List.length_map, hln, show sizeLine = 16777216 by decide]
    omega
  have J : Inv X pins σ (upd H1 p3 (.lst ((srt ks).map V.int))) { ({ s1 with heap := hp', toks := tk } : Shared) with heap := s3.heap, gens := s3.gens, drawn := s3.drawn, toks := s3.toks } :=
    I2.call (ch := []) (Un.laid keep3 hp fresh) (I2.hok.laid keep3 hp ⟨small, out.toList, c3, vals_of_ints hi, hgt⟩) (by rw [eg]; exact I2.bare) (fun _ z => nomatch z)
  have e3 : s3 = { s1 with heap := s3.heap, gens := s3.gens, drawn := s3.drawn, toks := s3.toks } := by
    obtain ⟨_, _, _, _, _⟩ := s3
    obtain ⟨_, _, _, _, _⟩ := s1
    cases eo
    rfl
  rw [e3]
  exact ⟨.ref p3, _, J, rfl, q1 p3 fresh⟩
end Mn

/-! Mn Ld: max(list, default=c), min(list, default=c). -/
namespace Mn
open PySem PySem.Spec PyProof.Rows L2
theorem fresh_kept {h0 h' : Heap} {l : Addr} (hk : ∀ b o, b ∉ [h0.objs.size] → (h0.push { cls := .type "list_iterator", data := .fields #[.ref l, .int 0 0] }).get? b = some o → h'.get? b = some o) (b : Addr) (o : Obj) (e : h0.get? b = some o) : h'.get? b = some o := by
  have lt := Heap.lt_size e
  exact hk b o (fun z => Nat.lt_irrefl _ ((List.mem_singleton.mp z) ▸ lt)) (Heap.get?_push_of_some _ e)
theorem call_again {Pr : Program} {wo : World} {Ar : Around} {Ex : Value → Shared → Prop} {sh : Shared} {id : String} {b : Builtin} {pos : List Value} {kw : List (Str × Value)} {Q : Value → Shared → Prop} (hk : builtinKind id = none) (hp : plainId id = true) (hb : entryFor table id = some b) (ha : argsOk id ⟨pos, kw⟩)
    (go : wpAny (model Pr wo) Ar.in1 (b ⟨pos, kw⟩) (fun fin s2 => match fin with
      | .done f => (match (Except.ok f : Result) with | .ok (.ret v) => Q v s2 | .ok _ => False | .error e => Ex e s2)
      | .again c2 => c2.quiet = true ∧ codeAny (model Pr wo) Ar c2 (fun r s2 => match r with | .ok (.ret v) => Q v s2 | .ok _ => False | .error e => Ex e s2) s2) Ex sh) :
    wpAny (model Pr wo) Ar (call (.builtin id) pos kw) Q Ex sh := by
  refine wpAny_call (codeAny_call_builtin hp hb ?_)
  simp only [checkBuiltinCall, hk]
  cases sg : Manifest.signature? id with
  | none => exact wpAny_pure go
  | some sig =>
    have h2 : Bind.checkArgs id sig ⟨pos, kw⟩ = pure () := by simpa only [argsOk, sg] using ha
    simp only [h2]
    exact wpAny_pure go

section
variable {Pr : Program} {wo : World} {Ar : Around} {Rs : Result → Shared → Prop} {it : Addr} {rd wr : List Addr} {len : Nat} {Pv : Nat → Value → Prop} {Ps : Nat → Heap → Prop} {kw : List (Str × Value)}
theorem max_more (W : Walks Pr wo Ar.in1 it rd wr len Pv Ps) (bt : Nat → Nat → Bool) (cmp : CmpOf Pr wo Ar.in1 .Gt Pv bt) (box : Addr) (out : box ∉ rd) : ∀ (left k : Nat) (sh : Shared) (best : Value) (ver : Nat), len - (k + 1) = left → k + 1 ≤ len → Ps (k + 1) sh.heap → Pv (argBest bt k) best →
    sh.heap.get? box = some { cls := .type "list", dict := none, data := .seq #[best, best] ver, slots := #[] } → (∀ v hp tk, Pv (argBest bt (len - 1)) v → (∀ b o, b ∉ wr → b ≠ box → sh.heap.get? b = some o → hp.get? b = some o) → Rs (.ok (.ret v)) { sh with heap := hp, toks := tk }) →
    codeAny (model Pr wo) Ar (.builtin "max.loop" ⟨[.ref it, .none, .ref box], kw⟩) Rs sh := by
  have outW : box ∉ wr := fun z => out (W.sub _ z)
  have nm : (toString "max" ++ toString ".loop" : String) = "max.loop" := by decide
  intro left
  induction left with
  | zero =>
    intro k sh best ver hl hk st pb hb go
    have e : k + 1 = len := by omega
    refine codeAny_builtin F.entry_max_loop (R := Rs) ?_
    rw [Around.under_plainId F.plain_max_loop ⟨_, kw⟩]
    show wpAny _ Ar.in1 (seqItems? (.ref box) >>= _) _ _ sh
    refine wpAny_bind (wpAny_seqItems hb rfl (?_ : wpAny _ Ar.in1 (tryCatch (pyNext (.ref it)) _ >>= _) _ _ sh))
    refine wpAny_bind (wpAny_tryCatch (W.done sh _ _ (e ▸ st) fun hp tk keep => (?_ : wpAny _ Ar.in1 (updateSeq box (fun _ => #[]) >>= _) _ _ _)))
    have hb2 := keep box _ outW hb
    refine wpAny_bind (wpAny_updateSeq hb2 rfl (wpAny_bind (wpAny_letGo (wpAny_pure (go best _ tk (by rw [← e]; exact pb) ?_)))))
    exact fun b o h1 h2 h3 => (Heap.get?_update_other _ _ (Ne.symm h2)).trans (keep b o h1 h3)
  | succ left ih =>
    intro k sh best ver hl hk st pb hb go
    have lt : k + 1 < len := by omega
    refine codeAny_builtin F.entry_max_loop (R := Rs) ?_
    rw [Around.under_plainId F.plain_max_loop ⟨_, kw⟩]
    show wpAny _ Ar.in1 (seqItems? (.ref box) >>= _) _ _ sh
    refine wpAny_bind (wpAny_seqItems hb rfl (?_ : wpAny _ Ar.in1 (tryCatch (pyNext (.ref it)) _ >>= _) _ _ sh))
    refine wpAny_bind (wpAny_tryCatch (W.item (k + 1) sh _ _ lt st fun v hp tk pv st2 keep => (?_ : wpAny _ Ar.in1 (tryCatch (holding [v, v] (richCompare .Gt v best >>= _)) _ >>= _) _ _ _)))
    have hb2 := keep box _ outW hb
    refine wpAny_bind (wpAny_tryCatch (wpAny_holding (wpAny_bind (cmp (k + 1) (argBest bt k) v best _ _ _ pv pb (wpAny_bind (wpAny_holding (wpAny_truthy_bool (wpAny_bind (wpAny_letGo (wpAny_pure ?_))))))))))
    have ab : argBest bt (k + 1) = if bt (k + 1) (argBest bt k) = true then k + 1 else argBest bt k := rfl
    cases c : bt (k + 1) (argBest bt k) with
    | true =>
      rw [c, if_pos rfl] at ab
      rw [if_pos rfl]
      refine wpAny_bind (wpAny_updateSeq hb2 rfl (wpAny_bind (wpAny_letGo ?_)))
      rw [nm]
      refine wpAny_pure ⟨plainId_quiet F.plain_max_loop ⟨_, kw⟩, ih (k + 1) _ v _ (by omega) lt (W.frame _ _ _ st2 fun b h1 o h2 => ?_) (by rw [ab]; exact pv) (Heap.get?_update_self _ hb2 rfl) fun v2 hp2 tk2 pv2 keep2 => ?_⟩
      · exact (Heap.get?_update_other _ _ (fun z : box = b => out (z ▸ h1))).trans h2
      · exact go v2 hp2 tk2 pv2 fun b o h1 h2 h3 => keep2 b o h1 h2 ((Heap.get?_update_other _ _ (Ne.symm h2)).trans (keep b o h1 h3))
    | false =>
      rw [c, if_neg (by decide)] at ab
      rw [if_neg (by decide)]
      refine wpAny_bind (wpAny_letGo ?_)
      rw [nm]
      refine wpAny_pure ⟨plainId_quiet F.plain_max_loop ⟨_, kw⟩, ih (k + 1) _ best ver (by omega) lt st2 (by rw [ab]; exact pb) hb2 fun v2 hp2 tk2 pv2 keep2 => ?_⟩
      exact go v2 hp2 tk2 pv2 fun b o h1 h2 h3 => keep2 b o h1 h2 (keep b o h1 h3)
end
section
variable {Pr : Program} {wo : World} {Ar : Around} {Ex : Value → Shared → Prop} {sh : Shared}
theorem args_max_d (a d : Value) : argsOk "max" ⟨[a], [(Str.ofString "default", d)]⟩ := by unfold argsOk; kernel_rfl
/-- max(a list of numbers, default=d) -/
theorem max_default {la : Addr} {us : List Value} {ks : List Int} {d : Value} {Q : Value → Shared → Prop} (calm : Ar.handled = none) (isL : sh.heap.IsList la us.toArray) (ni : IntsAre us ks)
    (h0 : ks = [] → ∀ hp tk, (∀ b o, sh.heap.get? b = some o → hp.get? b = some o) → Q d { sh with heap := hp, toks := tk })
    (h1 : ∀ m t hp tk, m ∈ ks → (∀ a, a ∈ ks → a ≤ m) → (∀ b o, sh.heap.get? b = some o → hp.get? b = some o) → Q (.int m t) { sh with heap := hp, toks := tk }) :
    wpAny (model Pr wo) Ar (call (.builtin "max") [.ref la] [(Str.ofString "default", d)]) Q Ex sh := by
  have nm : (toString "max" ++ toString ".loop" : String) = "max.loop" := by decide
  obtain ⟨xs, ex⟩ := ni.allInts.items
  have hns : ks = xs.toList.map (·.1) := by rw [← ni.numsOf, ← nums_intItems, ← ex]
  rw [ex] at isL
  refine call_again F.kind_max F.plain_max F.entry_max (args_max_d _ _) ?_
  refine (?_ : wpAny _ Ar.in1 (Builtin.Builtins.bindParams "max" ["key", "default"] 0 ⟨[], [(Str.ofString "default", d)]⟩ >>= _) _ _ sh)
  refine wpAny_bind (wpAny_of_eq (show Builtin.Builtins.bindParams "max" ["key", "default"] 0 ⟨[], [(Str.ofString "default", d)]⟩ = pure [none, some d] from rfl) (wpAny_bind (wpAny_pure ?_)))
  refine wpAny_bind (iter_intList isL fun s2 e2 st lt2 ne2 => wpAny_bind (wpAny_newObj_type ?_))
  subst e2
  have nf : (sh.heap.push { cls := .type "list_iterator", data := .fields #[.ref la, .int 0 0] }).objs.size ∉ [sh.heap.objs.size, la] := fun z => Nat.lt_irrefl _ (lt2 _ z)
  have W := Walks.list (prog := Pr) (w := wo) (A := Ar.in1) calm sh.heap.objs.size la ne2 (intItems xs)
  have szx : (intItems xs).size = xs.size := by simp [intItems]
  rw [nm]
  refine wpAny_pure ⟨plainId_quiet F.plain_max_loop _, codeAny_builtin F.entry_max_loop ?_⟩
  rw [Around.under_plainId F.plain_max_loop _]
  refine (?_ : wpAny _ Ar.in1 (seqItems? (.ref _) >>= _) _ _ _)
  refine wpAny_bind (wpAny_seqItems (Heap.get?_push_size _ rfl) rfl (?_ : wpAny _ Ar.in1 (tryCatch (pyNext (.ref _)) _ >>= _) _ _ _))
  have old : ∀ {hp : Heap}, (∀ b o, b ∉ [sh.heap.objs.size] → b ≠ (sh.heap.push { cls := .type "list_iterator", data := .fields #[.ref la, .int 0 0] }).objs.size → ((sh.heap.push { cls := .type "list_iterator", data := .fields #[.ref la, .int 0 0] }).push { cls := .type "list", dict := none, data := .seq #[] 0, slots := #[] }).get? b = some o → hp.get? b = some o) → ∀ b o, sh.heap.get? b = some o → hp.get? b = some o := fun k b o e => by
    have lb := Heap.lt_size e
    refine k b o (fun z => Nat.lt_irrefl _ ((List.mem_singleton.mp z) ▸ lb)) (fun z => ?_) (Heap.get?_push_of_some _ (Heap.get?_push_of_some _ e))
    exact Nat.ne_of_lt (Nat.lt_trans lb (by rw [Heap.size_push]; exact Nat.lt_succ_self _)) z
  have st2 := W.frame _ _ _ st fun b _ o e => Heap.get?_push_of_some { cls := .type "list", dict := none, data := .seq #[] 0, slots := #[] } e
  by_cases h : xs.size = 0
  · have kn : ks = [] := by rw [hns, List.map_eq_nil_iff]; exact List.eq_nil_of_length_eq_zero (by rw [Array.length_toList]; exact h)
    refine wpAny_bind (wpAny_tryCatch (W.done _ _ _ ((szx.trans h).symm ▸ st2) fun hp tk keep => (?_ : wpAny _ Ar.in1 (rule (toString "max" ++ toString ".default") >>= fun _ => ret d) _ _ _)))
    refine wpAny_bind (wpAny_rule (wpAny_pure ?_))
    exact (h0 kn _ _ (old fun b o z1 z2 z3 => keep b o z1 z3))
  · refine wpAny_bind (wpAny_tryCatch (W.item 0 _ _ _ (by rw [szx]; omega) st2 fun v hp tk pv st3 keep => (?_ : wpAny _ Ar.in1 (updateSeq _ (fun _ => #[v, v]) >>= _) _ _ _)))
    have hb2 := keep _ _ (fun z => nf (by rw [List.mem_singleton.mp z]; exact List.mem_cons_self)) (Heap.get?_push_size _ rfl)
    refine wpAny_bind (wpAny_updateSeq hb2 rfl ?_)
    rw [nm]
    refine wpAny_pure ⟨plainId_quiet F.plain_max_loop _, max_more W (fun i j => decide (numAt xs i > numAt xs j)) (CmpOf.ints_gt (numAt xs) (fun _ _ => intItems_at)) _ nf _ 0 _ v _ rfl (by rw [szx]; omega) (W.frame _ _ _ st3 fun b h1 o h2 => ?_) pv (Heap.get?_update_self _ hb2 rfl) fun v2 hp2 tk2 pv2 keep2 => ?_⟩
    · exact (Heap.get?_update_other _ _ (fun z : _ = b => nf (by rw [← z] at h1; exact h1))).trans h2
    · obtain ⟨t, rfl⟩ := intItems_at pv2
      obtain ⟨g1, g2⟩ := argBest_gt (numAt xs) (xs.size - 1)
      rw [szx] at pv2 ⊢
      refine h1 _ t hp2 tk2 ?_ (fun a ha => ?_) (old fun b o z1 z2 z3 => keep2 b o z1 z2 ((Heap.get?_update_other _ _ (Ne.symm z2)).trans (keep b o z1 z3)))
      · rw [hns, numAt_eq]; exact getD_mem (by rw [List.length_map, Array.length_toList]; omega)
      · rw [hns] at ha
        obtain ⟨j, hj, rfl⟩ := mem_getD ha
        rw [List.length_map, Array.length_toList] at hj
        rw [← numAt_eq]
        exact g2 j (by omega)
end

section
variable {Pr : Program} {wo : World} {Ar : Around} {Rs : Result → Shared → Prop} {it : Addr} {rd wr : List Addr} {len : Nat} {Pv : Nat → Value → Prop} {Ps : Nat → Heap → Prop} {kw : List (Str × Value)}
theorem min_more (W : Walks Pr wo Ar.in1 it rd wr len Pv Ps) (bt : Nat → Nat → Bool) (cmp : CmpOf Pr wo Ar.in1 .Lt Pv bt) (box : Addr) (out : box ∉ rd) : ∀ (left k : Nat) (sh : Shared) (best : Value) (ver : Nat), len - (k + 1) = left → k + 1 ≤ len → Ps (k + 1) sh.heap → Pv (argBest bt k) best →
    sh.heap.get? box = some { cls := .type "list", dict := none, data := .seq #[best, best] ver, slots := #[] } → (∀ v hp tk, Pv (argBest bt (len - 1)) v → (∀ b o, b ∉ wr → b ≠ box → sh.heap.get? b = some o → hp.get? b = some o) → Rs (.ok (.ret v)) { sh with heap := hp, toks := tk }) →
    codeAny (model Pr wo) Ar (.builtin "min.loop" ⟨[.ref it, .none, .ref box], kw⟩) Rs sh := by
  have outW : box ∉ wr := fun z => out (W.sub _ z)
  have nm : (toString "min" ++ toString ".loop" : String) = "min.loop" := by decide
  intro left
  induction left with
  | zero =>
    intro k sh best ver hl hk st pb hb go
    have e : k + 1 = len := by omega
    refine codeAny_builtin F.entry_min_loop (R := Rs) ?_
    rw [Around.under_plainId F.plain_min_loop ⟨_, kw⟩]
    show wpAny _ Ar.in1 (seqItems? (.ref box) >>= _) _ _ sh
    refine wpAny_bind (wpAny_seqItems hb rfl (?_ : wpAny _ Ar.in1 (tryCatch (pyNext (.ref it)) _ >>= _) _ _ sh))
    refine wpAny_bind (wpAny_tryCatch (W.done sh _ _ (e ▸ st) fun hp tk keep => (?_ : wpAny _ Ar.in1 (updateSeq box (fun _ => #[]) >>= _) _ _ _)))
    have hb2 := keep box _ outW hb
    refine wpAny_bind (wpAny_updateSeq hb2 rfl (wpAny_bind (wpAny_letGo (wpAny_pure (go best _ tk (by rw [← e]; exact pb) ?_)))))
    exact fun b o h1 h2 h3 => (Heap.get?_update_other _ _ (Ne.symm h2)).trans (keep b o h1 h3)
  | succ left ih =>
    intro k sh best ver hl hk st pb hb go
    have lt : k + 1 < len := by omega
    refine codeAny_builtin F.entry_min_loop (R := Rs) ?_
    rw [Around.under_plainId F.plain_min_loop ⟨_, kw⟩]
    show wpAny _ Ar.in1 (seqItems? (.ref box) >>= _) _ _ sh
    refine wpAny_bind (wpAny_seqItems hb rfl (?_ : wpAny _ Ar.in1 (tryCatch (pyNext (.ref it)) _ >>= _) _ _ sh))
    refine wpAny_bind (wpAny_tryCatch (W.item (k + 1) sh _ _ lt st fun v hp tk pv st2 keep => (?_ : wpAny _ Ar.in1 (tryCatch (holding [v, v] (richCompare .Lt v best >>= _)) _ >>= _) _ _ _)))
    have hb2 := keep box _ outW hb
    refine wpAny_bind (wpAny_tryCatch (wpAny_holding (wpAny_bind (cmp (k + 1) (argBest bt k) v best _ _ _ pv pb (wpAny_bind (wpAny_holding (wpAny_truthy_bool (wpAny_bind (wpAny_letGo (wpAny_pure ?_))))))))))
    have ab : argBest bt (k + 1) = if bt (k + 1) (argBest bt k) = true then k + 1 else argBest bt k := rfl
    cases c : bt (k + 1) (argBest bt k) with
    | true =>
      rw [c, if_pos rfl] at ab
      rw [if_pos rfl]
      refine wpAny_bind (wpAny_updateSeq hb2 rfl (wpAny_bind (wpAny_letGo ?_)))
      rw [nm]
      refine wpAny_pure ⟨plainId_quiet F.plain_min_loop ⟨_, kw⟩, ih (k + 1) _ v _ (by omega) lt (W.frame _ _ _ st2 fun b h1 o h2 => ?_) (by rw [ab]; exact pv) (Heap.get?_update_self _ hb2 rfl) fun v2 hp2 tk2 pv2 keep2 => ?_⟩
      · exact (Heap.get?_update_other _ _ (fun z : box = b => out (z ▸ h1))).trans h2
      · exact go v2 hp2 tk2 pv2 fun b o h1 h2 h3 => keep2 b o h1 h2 ((Heap.get?_update_other _ _ (Ne.symm h2)).trans (keep b o h1 h3))
    | false =>
      rw [c, if_neg (by decide)] at ab
      rw [if_neg (by decide)]
      refine wpAny_bind (wpAny_letGo ?_)
      rw [nm]
      refine wpAny_pure ⟨plainId_quiet F.plain_min_loop ⟨_, kw⟩, ih (k + 1) _ best ver (by omega) lt st2 (by rw [ab]; exact pb) hb2 fun v2 hp2 tk2 pv2 keep2 => ?_⟩
      exact go v2 hp2 tk2 pv2 fun b o h1 h2 h3 => keep2 b o h1 h2 (keep b o h1 h3)
end
section
variable {Pr : Program} {wo : World} {Ar : Around} {Ex : Value → Shared → Prop} {sh : Shared}
theorem args_min_d (a d : Value) : argsOk "min" ⟨[a], [(Str.ofString "default", d)]⟩ := by unfold argsOk; kernel_rfl
/-- min(a list of numbers, default=d) -/
theorem min_default {la : Addr} {us : List Value} {ks : List Int} {d : Value} {Q : Value → Shared → Prop} (calm : Ar.handled = none) (isL : sh.heap.IsList la us.toArray) (ni : IntsAre us ks)
    (h0 : ks = [] → ∀ hp tk, (∀ b o, sh.heap.get? b = some o → hp.get? b = some o) → Q d { sh with heap := hp, toks := tk })
    (h1 : ∀ m t hp tk, m ∈ ks → (∀ a, a ∈ ks → m ≤ a) → (∀ b o, sh.heap.get? b = some o → hp.get? b = some o) → Q (.int m t) { sh with heap := hp, toks := tk }) :
    wpAny (model Pr wo) Ar (call (.builtin "min") [.ref la] [(Str.ofString "default", d)]) Q Ex sh := by
  have nm : (toString "min" ++ toString ".loop" : String) = "min.loop" := by decide
  obtain ⟨xs, ex⟩ := ni.allInts.items
  have hns : ks = xs.toList.map (·.1) := by rw [← ni.numsOf, ← nums_intItems, ← ex]
  rw [ex] at isL
  refine call_again F.kind_min F.plain_min F.entry_min (args_min_d _ _) ?_
  refine (?_ : wpAny _ Ar.in1 (Builtin.Builtins.bindParams "min" ["key", "default"] 0 ⟨[], [(Str.ofString "default", d)]⟩ >>= _) _ _ sh)
  refine wpAny_bind (wpAny_of_eq (show Builtin.Builtins.bindParams "min" ["key", "default"] 0 ⟨[], [(Str.ofString "default", d)]⟩ = pure [none, some d] from rfl) (wpAny_bind (wpAny_pure ?_)))
  refine wpAny_bind (iter_intList isL fun s2 e2 st lt2 ne2 => wpAny_bind (wpAny_newObj_type ?_))
  subst e2
  have nf : (sh.heap.push { cls := .type "list_iterator", data := .fields #[.ref la, .int 0 0] }).objs.size ∉ [sh.heap.objs.size, la] := fun z => Nat.lt_irrefl _ (lt2 _ z)
  have W := Walks.list (prog := Pr) (w := wo) (A := Ar.in1) calm sh.heap.objs.size la ne2 (intItems xs)
  have szx : (intItems xs).size = xs.size := by simp [intItems]
  rw [nm]
  refine wpAny_pure ⟨plainId_quiet F.plain_min_loop _, codeAny_builtin F.entry_min_loop ?_⟩
  rw [Around.under_plainId F.plain_min_loop _]
  refine (?_ : wpAny _ Ar.in1 (seqItems? (.ref _) >>= _) _ _ _)
  refine wpAny_bind (wpAny_seqItems (Heap.get?_push_size _ rfl) rfl (?_ : wpAny _ Ar.in1 (tryCatch (pyNext (.ref _)) _ >>= _) _ _ _))
  have old : ∀ {hp : Heap}, (∀ b o, b ∉ [sh.heap.objs.size] → b ≠ (sh.heap.push { cls := .type "list_iterator", data := .fields #[.ref la, .int 0 0] }).objs.size → ((sh.heap.push { cls := .type "list_iterator", data := .fields #[.ref la, .int 0 0] }).push { cls := .type "list", dict := none, data := .seq #[] 0, slots := #[] }).get? b = some o → hp.get? b = some o) → ∀ b o, sh.heap.get? b = some o → hp.get? b = some o := fun k b o e => by
    have lb := Heap.lt_size e
    refine k b o (fun z => Nat.lt_irrefl _ ((List.mem_singleton.mp z) ▸ lb)) (fun z => ?_) (Heap.get?_push_of_some _ (Heap.get?_push_of_some _ e))
    exact Nat.ne_of_lt (Nat.lt_trans lb (by rw [Heap.size_push]; exact Nat.lt_succ_self _)) z
  have st2 := W.frame _ _ _ st fun b _ o e => Heap.get?_push_of_some { cls := .type "list", dict := none, data := .seq #[] 0, slots := #[] } e
  by_cases h : xs.size = 0
  · have kn : ks = [] := by rw [hns, List.map_eq_nil_iff]; exact List.eq_nil_of_length_eq_zero (by rw [Array.length_toList]; exact h)
    refine wpAny_bind (wpAny_tryCatch (W.done _ _ _ ((szx.trans h).symm ▸ st2) fun hp tk keep => (?_ : wpAny _ Ar.in1 (rule (toString "min" ++ toString ".default") >>= fun _ => ret d) _ _ _)))
    refine wpAny_bind (wpAny_rule (wpAny_pure ?_))
    exact (h0 kn _ _ (old fun b o z1 z2 z3 => keep b o z1 z3))
  · refine wpAny_bind (wpAny_tryCatch (W.item 0 _ _ _ (by rw [szx]; omega) st2 fun v hp tk pv st3 keep => (?_ : wpAny _ Ar.in1 (updateSeq _ (fun _ => #[v, v]) >>= _) _ _ _)))
    have hb2 := keep _ _ (fun z => nf (by rw [List.mem_singleton.mp z]; exact List.mem_cons_self)) (Heap.get?_push_size _ rfl)
    refine wpAny_bind (wpAny_updateSeq hb2 rfl ?_)
    rw [nm]
    refine wpAny_pure ⟨plainId_quiet F.plain_min_loop _, min_more W (fun i j => decide (numAt xs i < numAt xs j)) (CmpOf.ints_lt (numAt xs) (fun _ _ => intItems_at)) _ nf _ 0 _ v _ rfl (by rw [szx]; omega) (W.frame _ _ _ st3 fun b h1 o h2 => ?_) pv (Heap.get?_update_self _ hb2 rfl) fun v2 hp2 tk2 pv2 keep2 => ?_⟩
    · exact (Heap.get?_update_other _ _ (fun z : _ = b => nf (by rw [← z] at h1; exact h1))).trans h2
    · obtain ⟨t, rfl⟩ := intItems_at pv2
      obtain ⟨g1, g2⟩ := argBest_lt (numAt xs) (xs.size - 1)
      rw [szx] at pv2 ⊢
      refine h1 _ t hp2 tk2 ?_ (fun a ha => ?_) (old fun b o z1 z2 z3 => keep2 b o z1 z2 ((Heap.get?_update_other _ _ (Ne.symm z2)).trans (keep b o z1 z3)))
      · rw [hns, numAt_eq]; exact getD_mem (by rw [List.length_map, Array.length_toList]; omega)
      · rw [hns] at ha
        obtain ⟨j, hj, rfl⟩ := mem_getD ha
        rw [List.length_map, Array.length_toList] at hj
        rw [← numAt_eq]
        exact g2 j (by omega)
end
end Mn

/-! Mn M: what is walked. -/
namespace Mn
open PySem L2
/-- an iterator that gives these items as long as its source stands: An says what is kept of the source itself, Ai of the items -/
structure Src (K : PySem.W.Frag) (J : It) (xs : List D) (G : AP → AP → Hp → Prop) : Prop where
  stay : ∀ {An Ai : AP} {H H' : Hp}, G An Ai H → (∀ b o, H b = some o → (An b ∨ Ai b ∨ Still o) → H' b = some o) → G An Ai H'
  mono : ∀ {An Ai Bn Bi : AP} {H : Hp}, G An Ai H → (∀ a o, H a = some o → An a → Bn a) → (∀ a o, H a = some o → Ai a → Bi a) → G Bn Bi H
  nf : ∀ {An Ai Bi : AP} {H : Hp}, G An Ai H → nfms xs = true → G An Bi H
  go : ∀ {An Ai : AP} {H : Hp} {i : Nat}, G An Ai H → i < xs.length → J.go i H
  stop : ∀ {An Ai : AP} {H : Hp} {i : Nat}, G An Ai H → xs.length ≤ i → J.stop i H
  yld : ∀ {An Ai : AP} {H H' : Hp} {i : Nat} {x : V}, G An Ai H → i < xs.length → J.yld i H x H' → ∃ d, xs[i]? = some d ∧ Rp K H' Ai d x [] ∧ Ext H H'
section
variable {K : PySem.W.Frag}
def GL (K : PySem.W.Frag) (a : Addr) (vs : List V) (xs : List D) : AP → AP → Hp → Prop := fun An Ai H => ((H a = some (.lst vs) ∧ An a) ∨ SqI K H a vs) ∧ Rps K H Ai xs vs []
theorem GL.sq {a : Addr} {vs : List V} {xs : List D} {An Ai : AP} {H : Hp} (h : GL K a vs xs An Ai H) : SqL K H a vs := h.1.elim (fun h => .inl (.inl h.1)) SqI.seq
theorem GL.stay {a : Addr} {vs : List V} {xs : List D} {An Ai : AP} {H H' : Hp} (h : GL K a vs xs An Ai H) (k : ∀ b o, H b = some o → (An b ∨ Ai b ∨ Still o) → H' b = some o) : GL K a vs xs An Ai H' :=
  ⟨h.1.imp (fun h => ⟨k _ _ h.1 (.inl h.2), h.2⟩) fun h => h.mono fun b o e s => k b o e (.inr (.inr s)), h.2.mono (fun b o e q => k b o e (q.elim (fun z => nomatch z) fun z => .inr z)) fun _ _ _ z => z⟩
theorem GL.mono {a : Addr} {vs : List V} {xs : List D} {An Ai Bn Bi : AP} {H : Hp} (h : GL K a vs xs An Ai H) (k1 : ∀ a o, H a = some o → An a → Bn a) (k2 : ∀ a o, H a = some o → Ai a → Bi a) : GL K a vs xs Bn Bi H :=
  ⟨h.1.imp (fun h => ⟨h.1, k1 _ _ h.1 h.2⟩) id, h.2.mono (fun _ _ e _ => e) k2⟩
theorem src_list {a : Addr} {vs : List V} {xs : List D} : Src K (Itl K a) xs (GL K a vs xs) where
  stay := GL.stay
  mono := GL.mono
  nf := fun h n => ⟨h.1, h.2.nfm n⟩
  go := fun {An Ai H i} h hi => ⟨vs, vs[i]'(by rw [h.2.length]; exact hi), h.sq, List.getElem?_eq_getElem _⟩
  stop := fun h hi => ⟨vs, h.sq, by rw [h.2.length]; exact hi⟩
  yld := fun {An Ai H H' i x} h _ ⟨e, k⟩ => by
    subst e
    have e1 := k vs h.sq
    have hi : i < xs.length := by rw [← h.2.length]; exact (List.getElem?_eq_some_iff.mp e1).1
    obtain ⟨v, e2, r⟩ := h.2.get0 (List.getElem?_eq_getElem hi)
    rw [e1] at e2
    cases e2
    exact ⟨_, List.getElem?_eq_getElem hi, r, Ext.refl _⟩
def GT (K : PySem.W.Frag) (a : Addr) (vs : List V) (xs : List D) : AP → AP → Hp → Prop := fun _ Ai H => SqT K H a vs ∧ Rps K H Ai xs vs []
theorem src_tup {a : Addr} {vs : List V} {xs : List D} : Src K (Itt K a) xs (GT K a vs xs) where
  stay := fun h k => ⟨sqT_mono h.1 fun b o e s => k b o e (.inr (.inr s)), h.2.mono (fun b o e q => k b o e (q.elim (fun z => nomatch z) fun z => .inr z)) fun _ _ _ z => z⟩
  mono := fun h _ k => ⟨h.1, h.2.mono (fun _ _ e _ => e) k⟩
  nf := fun h n => ⟨h.1, h.2.nfm n⟩
  go := fun {An Ai H i} h hi => ⟨vs, vs[i]'(by rw [h.2.length]; exact hi), h.1, List.getElem?_eq_getElem _⟩
  stop := fun h hi => ⟨vs, h.1, by rw [h.2.length]; exact hi⟩
  yld := fun {An Ai H H' i x} h _ ⟨e, k⟩ => by
    subst e
    have e1 := k vs h.1
    have hi : i < xs.length := by rw [← h.2.length]; exact (List.getElem?_eq_some_iff.mp e1).1
    obtain ⟨v, e2, r⟩ := h.2.get0 (List.getElem?_eq_getElem hi)
    rw [e1] at e2
    cases e2
    exact ⟨_, List.getElem?_eq_getElem hi, r, Ext.refl _⟩
theorem src_str {x : Str} (hx : PyData.strOk x = true) : Src K (Its x) (x.cps.toList.map fun c => .str ⟨#[c]⟩) (fun _ _ _ => True) where
  stay := fun _ _ => trivial
  mono := fun _ _ _ => trivial
  nf := fun _ _ => trivial
  go := fun {An Ai H i} _ hi => by show i < x.cps.size; simpa using hi
  stop := fun {An Ai H i} _ hi => by show x.cps.size ≤ i; simpa using hi
  yld := fun {An Ai H H' i v} _ _ ⟨e, c, hc, ev⟩ => by
    subst e ev
    have hc' : x.cps.toList[i]? = some c := by rw [Array.getElem?_toList]; exact hc
    exact ⟨.str ⟨#[c]⟩, by rw [List.getElem?_map, hc']; rfl, ⟨rfl, rfl, strOk_mk (l := [c]) hx fun b hb => by rw [List.mem_singleton.mp hb]; exact List.mem_of_getElem? hc'⟩, Ext.refl _⟩
theorem src_rng {lo : Int} {n : Nat} : Src K (Itr lo n) (rngL lo n) (fun _ _ _ => True) where
  stay := fun _ _ => trivial
  mono := fun _ _ _ => trivial
  nf := fun _ _ => trivial
  go := fun {An Ai H i} _ hi => by show i < n; simpa [rngL] using hi
  stop := fun {An Ai H i} _ hi => by show n ≤ i; simpa [rngL] using hi
  yld := fun {An Ai H H' i v} _ hi ⟨e, ev⟩ => by
    subst e ev
    have hi' : i < n := by simpa [rngL] using hi
    exact ⟨.int (lo + (i : Nat)), by unfold rngL; rw [List.getElem?_map, List.getElem?_range hi']; rfl, ⟨rfl, rfl⟩, Ext.refl _⟩
theorem enumL_get : ∀ {xs : List D} {n i : Nat}, (enumL n xs)[i]? = (xs[i]?).map fun d => .tup [.int ((n + i : Nat) : Int), d]
  | [], n, i => by simp [enumL]
  | x :: xs, n, 0 => by simp [enumL]
  | x :: xs, n, i + 1 => by
    have := enumL_get (xs := xs) (n := n + 1) (i := i)
    have e : n + 1 + i = n + (i + 1) := by omega
    rw [e] at this
    simpa [enumL] using this
theorem enumL_len : ∀ {xs : List D} {n : Nat}, (enumL n xs).length = xs.length
  | [], n => rfl
  | x :: xs, n => by rw [enumL, List.length_cons, List.length_cons, enumL_len]
theorem enumL_nf : ∀ {xs : List D} {n : Nat}, nfms (enumL n xs) = nfms xs
  | [], n => rfl
  | x :: xs, n => by
    rw [enumL, nfms, nfms, enumL_nf]
    simp [nfm, nfms]
theorem Rp.pair {H : Hp} {A : AP} {d e : D} {x y : V} {T : Addr} (h1 : Rp K H A d x []) (h2 : Rp K H A e y []) (hT : H T = none) : Rp K (upd H T (.tup [x, y])) A (.tup [d, e]) (.ref T) [] :=
  ⟨T, [x, y], rfl, SqT.of upd_same, x, [y], [], [], rfl, rfl, h1.mono (fun b o e _ => Ext.new hT b o e) fun _ _ _ z => z, y, [], [], [], rfl, rfl, h2.mono (fun b o e _ => Ext.new hT b o e) fun _ _ _ z => z, rfl, rfl⟩
theorem src_enum {a : Addr} {vs : List V} {xs : List D} : Src K (Ite K a) (enumL 0 xs) (GL K a vs xs) where
  stay := GL.stay
  mono := GL.mono
  nf := fun h n => ⟨h.1, h.2.nfm (by rw [← n, enumL_nf])⟩
  go := fun {An Ai H i} h hi => ⟨vs, vs[i]'(by rw [h.2.length, ← enumL_len (n := 0)]; exact hi), h.sq, List.getElem?_eq_getElem _⟩
  stop := fun h hi => ⟨vs, h.sq, by rw [h.2.length, ← enumL_len (n := 0)]; exact hi⟩
  yld := fun {An Ai H H' i v} h hi ⟨T, x, e1, e2, e3, k⟩ => by
    subst e1 e3
    have e1 := k vs h.sq
    rw [enumL_len] at hi
    obtain ⟨v, e4, r⟩ := h.2.get0 (List.getElem?_eq_getElem hi)
    rw [e1] at e4
    cases e4
    refine ⟨_, by rw [enumL_get, List.getElem?_eq_getElem hi, Nat.zero_add]; rfl, Rp.pair (d := .int (i : Int)) ⟨rfl, rfl⟩ r e2, Ext.new e2⟩
theorem src_enumT {a : Addr} {vs : List V} {xs : List D} : Src K (IteT K a) (enumL 0 xs) (GT K a vs xs) where
  stay := fun h k => ⟨sqT_mono h.1 fun b o e s => k b o e (.inr (.inr s)), h.2.mono (fun b o e q => k b o e (q.elim (fun z => nomatch z) fun z => .inr z)) fun _ _ _ z => z⟩
  mono := fun h _ k => ⟨h.1, h.2.mono (fun _ _ e _ => e) k⟩
  nf := fun h n => ⟨h.1, h.2.nfm (by rw [← n, enumL_nf])⟩
  go := fun {An Ai H i} h hi => ⟨vs, vs[i]'(by rw [h.2.length, ← enumL_len (n := 0)]; exact hi), h.1, List.getElem?_eq_getElem _⟩
  stop := fun h hi => ⟨vs, h.1, by rw [h.2.length, ← enumL_len (n := 0)]; exact hi⟩
  yld := fun {An Ai H H' i v} h hi ⟨T, x, e1, e2, e3, k⟩ => by
    subst e1 e3
    have e1 := k vs h.1
    rw [enumL_len] at hi
    obtain ⟨v, e4, r⟩ := h.2.get0 (List.getElem?_eq_getElem hi)
    rw [e1] at e4
    cases e4
    refine ⟨_, by rw [enumL_get, List.getElem?_eq_getElem hi, Nat.zero_add]; rfl, Rp.pair (d := .int (i : Int)) ⟨rfl, rfl⟩ r e2, Ext.new e2⟩
theorem zipL_get : ∀ {xs ys : List D} {i : Nat} {x y : D}, xs[i]? = some x → ys[i]? = some y → (zipL xs ys)[i]? = some (.tup [x, y])
  | [], ys, i, x, y, h, _ => by simp at h
  | _ :: _, [], i, x, y, _, h => by simp at h
  | x :: xs, y :: ys, 0, _, _, h1, h2 => by
    simp at h1 h2
    subst h1 h2
    rfl
  | x :: xs, y :: ys, i + 1, _, _, h1, h2 => by
    have := zipL_get (xs := xs) (ys := ys) (i := i) (by simpa using h1) (by simpa using h2)
    simpa [zipL] using this
theorem zipL_len : ∀ {xs ys : List D}, (zipL xs ys).length = min xs.length ys.length
  | [], ys => by simp [zipL]
  | _ :: _, [] => by simp [zipL]
  | x :: xs, y :: ys => by
    rw [zipL, List.length_cons, List.length_cons, List.length_cons, zipL_len]
    omega
theorem zipL_nf : ∀ {xs ys : List D}, nfms (zipL xs ys) = true → ∀ (i : Nat) (x y : D), xs[i]? = some x → ys[i]? = some y → nfm x = true ∧ nfm y = true
  | [], ys, _, i, x, y, h, _ => by simp at h
  | _ :: _, [], _, i, x, y, _, h => by simp at h
  | x :: xs, y :: ys, n, 0, _, _, h1, h2 => by
    simp at h1 h2
    subst h1 h2
    have n' := (Bool.and_eq_true _ _).mp n
    have n2 := (Bool.and_eq_true _ _).mp n'.1
    have n3 := (Bool.and_eq_true _ _).mp n2.2
    exact ⟨n2.1, n3.1⟩
  | x :: xs, y :: ys, n, i + 1, _, _, h1, h2 => zipL_nf (xs := xs) (ys := ys) ((Bool.and_eq_true _ _).mp n).2 i _ _ (by simpa using h1) (by simpa using h2)
/-- two sources side by side: pairs up to the shorter one -/
def GZ (K : PySem.W.Frag) (a b : Addr) (vs us : List V) (xs ys : List D) : AP → AP → Hp → Prop := fun An Ai H => ((H a = some (.lst vs) ∧ An a) ∨ SqI K H a vs) ∧ ((H b = some (.lst us) ∧ An b) ∨ SqI K H b us) ∧
  vs.length = xs.length ∧ us.length = ys.length ∧ ∀ (i : Nat) (x y : D), xs[i]? = some x → ys[i]? = some y → ∃ v u, vs[i]? = some v ∧ us[i]? = some u ∧ Rp K H Ai x v [] ∧ Rp K H Ai y u []
theorem src_zip {a b : Addr} {vs us : List V} {xs ys : List D} : Src K (Itz K a b) (zipL xs ys) (GZ K a b vs us xs ys) where
  stay := fun h k => ⟨h.1.imp (fun h => ⟨k _ _ h.1 (.inl h.2), h.2⟩) fun h => h.mono fun b o e s => k b o e (.inr (.inr s)), h.2.1.imp (fun h => ⟨k _ _ h.1 (.inl h.2), h.2⟩) fun h => h.mono fun b o e s => k b o e (.inr (.inr s)), h.2.2.1, h.2.2.2.1, fun i x y e1 e2 => by
    obtain ⟨v, u, e3, e4, r1, r2⟩ := h.2.2.2.2 i x y e1 e2
    exact ⟨v, u, e3, e4, r1.mono (fun b o e q => k b o e (q.elim (fun z => nomatch z) fun z => .inr z)) fun _ _ _ z => z, r2.mono (fun b o e q => k b o e (q.elim (fun z => nomatch z) fun z => .inr z)) fun _ _ _ z => z⟩⟩
  mono := fun h k1 k2 => ⟨h.1.imp (fun h => ⟨h.1, k1 _ _ h.1 h.2⟩) id, h.2.1.imp (fun h => ⟨h.1, k1 _ _ h.1 h.2⟩) id, h.2.2.1, h.2.2.2.1, fun i x y e1 e2 => by
    obtain ⟨v, u, e3, e4, r1, r2⟩ := h.2.2.2.2 i x y e1 e2
    exact ⟨v, u, e3, e4, r1.mono (fun _ _ e _ => e) k2, r2.mono (fun _ _ e _ => e) k2⟩⟩
  nf := fun h n => ⟨h.1, h.2.1, h.2.2.1, h.2.2.2.1, fun i x y e1 e2 => by
    obtain ⟨v, u, e3, e4, r1, r2⟩ := h.2.2.2.2 i x y e1 e2
    have := zipL_nf n i x y e1 e2
    exact ⟨v, u, e3, e4, r1.nfm this.1, r2.nfm this.2⟩⟩
  go := fun {An Ai H i} h hi => by
    rw [zipL_len] at hi
    exact ⟨vs, us, vs[i]'(by rw [h.2.2.1]; omega), us[i]'(by rw [h.2.2.2.1]; omega), h.1.elim (fun h => .inl (.inl h.1)) SqI.seq, h.2.1.elim (fun h => .inl (.inl h.1)) SqI.seq, List.getElem?_eq_getElem _, List.getElem?_eq_getElem _⟩
  stop := fun {An Ai H i} h hi => by
    rw [zipL_len] at hi
    exact ⟨vs, us, h.1.elim (fun h => .inl (.inl h.1)) SqI.seq, h.2.1.elim (fun h => .inl (.inl h.1)) SqI.seq, by rw [h.2.2.1, h.2.2.2.1]; omega⟩
  yld := fun {An Ai H H' i v} h hi ⟨T, x, y, e1, e2, e3, k1, k2⟩ => by
    subst e1 e3
    rw [zipL_len] at hi
    have hx : i < xs.length := by omega
    have hy : i < ys.length := by omega
    obtain ⟨v, u, e4, e5, r1, r2⟩ := h.2.2.2.2 i _ _ (List.getElem?_eq_getElem hx) (List.getElem?_eq_getElem hy)
    rw [k1 vs (h.1.elim (fun h => .inl (.inl h.1)) SqI.seq)] at e4
    rw [k2 us (h.2.1.elim (fun h => .inl (.inl h.1)) SqI.seq)] at e5
    cases e4
    cases e5
    exact ⟨_, zipL_get (List.getElem?_eq_getElem hx) (List.getElem?_eq_getElem hy), Rp.pair r1 r2 e2, Ext.new e2⟩
def GZT (K : PySem.W.Frag) (a b : Addr) (vs us : List V) (xs ys : List D) : AP → AP → Hp → Prop := fun _ Ai H => SqT K H a vs ∧ SqT K H b us ∧
  vs.length = xs.length ∧ us.length = ys.length ∧ ∀ (i : Nat) (x y : D), xs[i]? = some x → ys[i]? = some y → ∃ v u, vs[i]? = some v ∧ us[i]? = some u ∧ Rp K H Ai x v [] ∧ Rp K H Ai y u []
theorem src_zipT {a b : Addr} {vs us : List V} {xs ys : List D} : Src K (RZ.ItzT K a b) (zipL xs ys) (GZT K a b vs us xs ys) where
  stay := fun h k => ⟨sqT_mono h.1 fun b o e s => k b o e (.inr (.inr s)), sqT_mono h.2.1 fun b o e s => k b o e (.inr (.inr s)), h.2.2.1, h.2.2.2.1, fun i x y e1 e2 => by
    obtain ⟨v, u, e3, e4, r1, r2⟩ := h.2.2.2.2 i x y e1 e2
    exact ⟨v, u, e3, e4, r1.mono (fun b o e q => k b o e (q.elim (fun z => nomatch z) fun z => .inr z)) fun _ _ _ z => z, r2.mono (fun b o e q => k b o e (q.elim (fun z => nomatch z) fun z => .inr z)) fun _ _ _ z => z⟩⟩
  mono := fun h k1 k2 => ⟨h.1, h.2.1, h.2.2.1, h.2.2.2.1, fun i x y e1 e2 => by
    obtain ⟨v, u, e3, e4, r1, r2⟩ := h.2.2.2.2 i x y e1 e2
    exact ⟨v, u, e3, e4, r1.mono (fun _ _ e _ => e) k2, r2.mono (fun _ _ e _ => e) k2⟩⟩
  nf := fun h n => ⟨h.1, h.2.1, h.2.2.1, h.2.2.2.1, fun i x y e1 e2 => by
    obtain ⟨v, u, e3, e4, r1, r2⟩ := h.2.2.2.2 i x y e1 e2
    have := zipL_nf n i x y e1 e2
    exact ⟨v, u, e3, e4, r1.nfm this.1, r2.nfm this.2⟩⟩
  go := fun {An Ai H i} h hi => by
    rw [zipL_len] at hi
    exact ⟨vs, us, vs[i]'(by rw [h.2.2.1]; omega), us[i]'(by rw [h.2.2.2.1]; omega), h.1, h.2.1, List.getElem?_eq_getElem _, List.getElem?_eq_getElem _⟩
  stop := fun {An Ai H i} h hi => by
    rw [zipL_len] at hi
    exact ⟨vs, us, h.1, h.2.1, by rw [h.2.2.1, h.2.2.2.1]; omega⟩
  yld := fun {An Ai H H' i v} h hi ⟨T, x, y, e1, e2, e3, k1, k2⟩ => by
    subst e1 e3
    rw [zipL_len] at hi
    have hx : i < xs.length := by omega
    have hy : i < ys.length := by omega
    obtain ⟨v, u, e4, e5, r1, r2⟩ := h.2.2.2.2 i _ _ (List.getElem?_eq_getElem hx) (List.getElem?_eq_getElem hy)
    rw [k1 vs h.1] at e4
    rw [k2 us h.2.1] at e5
    cases e4
    cases e5
    exact ⟨_, zipL_get (List.getElem?_eq_getElem hx) (List.getElem?_eq_getElem hy), Rp.pair r1 r2 e2, Ext.new e2⟩
theorem zip_reps {H : Hp} {A : AP} {xs ys : List D} {vs us : List V} (h1 : Rps K H A xs vs []) (h2 : Rps K H A ys us []) : vs.length = xs.length ∧ us.length = ys.length ∧ ∀ (i : Nat) (x y : D), xs[i]? = some x → ys[i]? = some y → ∃ v u, vs[i]? = some v ∧ us[i]? = some u ∧ Rp K H A x v [] ∧ Rp K H A y u [] :=
  ⟨h1.length, h2.length, fun i x y e1 e2 => by
    obtain ⟨v, g1, g2⟩ := h1.get0 e1
    obtain ⟨u, g3, g4⟩ := h2.get0 e2
    exact ⟨v, u, g1, g3, g2, g4⟩⟩
end
section
variable (P : Program) (w : World) (K : PySem.W.Frag) (mg : Str → Option Value) (base : Heap) (cf : Nat → List D → Option (D × List D))
def IOk (L : Lx) (tg it : Expr) (ii : I) : Prop := ∀ (F : AP) (ρ : Env) (own : Own) (σ : L2.St) (H : Hp), EnvR K F ρ own σ H → ∀ (xs : List D) (ρ' : Env), denI cf ii ρ = .ok xs ρ' → ∀ Z : It → Hp → Prop,
  (∀ J G own' H', Src K J xs G → EnvR K F ρ' own' σ H' → G (AV F ii.U own' []) (AV F ii.U own' []) H' → Post ii.W own H [] own' H' → Z J H') → Wi P w K mg base L tg it σ H Z
end
section
variable {P : Program} {w : World} {K : PySem.W.Frag} {mg : Str → Option Value} {base : Heap} {cf : Nat → List D → Option (D × List D)} {L : Lx}
theorem iok_seq {tg a : Expr} {ia : E} (ha : EOk P w K mg base cf L a ia) : IOk P w K mg base cf L tg a (.seq ia) := by
  intro F ρ own σ H E xs ρ' h Z q
  rw [denI] at h
  obtain ⟨x, ρ1, h1, h⟩ := R.bind_ok h
  obtain ⟨h2, rfl⟩ := R.opt_ok h
  have step : ∀ (Y : VK), (∀ v own1 H1, EnvR K F _ own1 σ H1 → Rp K H1 (AV F ia.U own1 []) (frz x) v [] → Post ia.W own H [] own1 H1 → Y v H1) → We P w K mg base L a σ H Y := fun Y hZ =>
    ha F ρ own σ H E x _ h1 _ fun v1 P1 own1 H1 r1 => hZ v1 own1 H1 r1.env.F1 (r1.frz E) r1.drop.2
  cases hx : frz x with
  | lst o ys =>
    rw [hx] at h2
    cases h2
    refine ⟨iList K (We P w K mg base L a), fun X hX => by have e := hX.K; subst e; exact pi_list (We.pe hX), step _ fun v own1 H1 E1 r p => ?_⟩
    rw [hx] at r
    cases o with
    | true => obtain ⟨_, _, _, _, _, e, _⟩ := r; cases e
    | false =>
      obtain ⟨aa, vs, rfl, hs, hA, _, rr⟩ := r
      exact ⟨aa, rfl, ⟨vs, SqL.of hs⟩, q _ _ own1 H1 (src_list (vs := vs)) E1 ⟨.inl ⟨hs, hA⟩, rr⟩ p⟩
  | scr ys =>
    rw [hx] at h2
    cases h2
    refine ⟨iList K (We P w K mg base L a), fun X hX => by have e := hX.K; subst e; exact pi_list (We.pe hX), step _ fun v own1 H1 E1 r p => ?_⟩
    rw [hx] at r
    obtain ⟨aa, vs, rfl, hs, _, rr⟩ := r
    exact ⟨aa, rfl, ⟨vs, hs.seq⟩, q _ _ own1 H1 (src_list (vs := vs)) E1 ⟨.inr hs, rr⟩ p⟩
  | tup ys =>
    rw [hx] at h2
    cases h2
    refine ⟨iTup K (We P w K mg base L a), fun X hX => by have e := hX.K; subst e; exact pi_tup (We.pe hX), step _ fun v own1 H1 E1 r p => ?_⟩
    rw [hx] at r
    obtain ⟨aa, vs, rfl, hs, rr⟩ := r
    exact ⟨aa, rfl, ⟨vs, hs⟩, q _ _ own1 H1 (src_tup (vs := vs)) E1 ⟨hs, rr⟩ p⟩
  | str s =>
    rw [hx] at h2
    cases h2
    refine ⟨iStr (We P w K mg base L a), fun X hX => pi_str (We.pe hX), step _ fun v own1 H1 E1 r p => ?_⟩
    rw [hx] at r
    obtain ⟨rfl, _, hs⟩ := r
    exact ⟨s, rfl, q _ _ own1 H1 (src_str hs) E1 trivial p⟩
  | non => rw [hx] at h2; cases h2
  | bl _ => rw [hx] at h2; cases h2
  | int _ => rw [hx] at h2; cases h2
  | dk _ _ _ => rw [hx] at h2; cases h2
  | ins _ _ _ _ => rw [hx] at h2; cases h2
theorem big_of {i : Int} (h : big i = true) : -(2 ^ 62) ≤ i ∧ i < 2 ^ 62 := of_decide_eq_true h
theorem Wa.one {a : Expr} {ia : E} (ha : EOk P w K mg base cf L a ia) (hs : ∀ x p, a ≠ .Starred x p) {F : AP} {ρ : Env} {own : Own} {σ : L2.St} {H : Hp} (E : EnvR K F ρ own σ H) {d : D} {ρ' : Env} (h : den cf ia ρ = .ok d ρ') {Z : List V → Hp → Prop}
    (q : ∀ v P' own' H', Res K F ia.U ia.W own H ρ' σ d v P' own' H' → Z [v] H') : Wa P w K mg base L [a] σ H Z :=
  ⟨tCons (We P w K mg base L a) tNil, fun X hX => pa_cons (We.pe hX) pa_nil (star_of hs), ha F ρ own σ H E d ρ' h _ fun v P1 own1 H1 r => q v P1 own1 H1 r⟩
theorem iok_rng1 {tg a : Expr} {ia : E} {p pos : Pos} (ha : EOk P w K mg base cf L a ia) (hg : L.sc.names.lookup (Str.ofString "range") = some .globalImplicit) (hm : mg (Str.ofString "range") = none) (hs : ∀ x p, a ≠ .Starred x p) :
    IOk P w K mg base cf L tg (.Call (.Name (Str.ofString "range") p) [a] [] pos) (.rng1 ia) := by
  intro F ρ own σ H E xs ρ' h' Z q
  rw [denI] at h'
  obtain ⟨x, ρ1, h1, h'⟩ := R.bind_ok h'
  cases x <;> first | (cases h'; done) | skip
  rename_i j
  obtain ⟨h2, rfl⟩ := R.opt_ok h'
  obtain ⟨hb, e⟩ := opt_if h2
  subst e
  refine ⟨iRng1 (Wa P w K mg base L [a]), fun X hX => pi_range1 (gl_of hX hg) (by rw [hX.mg]; exact hm) (Wa.pa hX) (star_of hs), ?_⟩
  refine Wa.one ha hs E h1 fun v P1 own1 H1 r => ?_
  obtain ⟨rfl, _⟩ := r.rep
  exact ⟨j, rfl, (big_of hb).1, (big_of hb).2, q _ _ own1 H1 src_rng r.drop.1 trivial r.drop.2⟩
theorem iok_rng2 {tg a b : Expr} {ia ib : E} {p pos : Pos} (ha : EOk P w K mg base cf L a ia) (hb : EOk P w K mg base cf L b ib) (hg : L.sc.names.lookup (Str.ofString "range") = some .globalImplicit) (hm : mg (Str.ofString "range") = none) (hs : ∀ x p, a ≠ .Starred x p)
    (hs2 : ∀ x p, b ≠ .Starred x p) : IOk P w K mg base cf L tg (.Call (.Name (Str.ofString "range") p) [a, b] [] pos) (.rng2 ia ib) := by
  intro F ρ own σ H E xs ρ' h' Z q
  rw [denI] at h'
  obtain ⟨x, ρ1, h1, h'⟩ := R.bind_ok h'
  cases x <;> first | (cases h'; done) | skip
  rename_i i
  obtain ⟨y, ρ2, h2, h'⟩ := R.bind_ok (show (den cf ib ρ1).bind _ = _ from h')
  cases y <;> first | (cases h'; done) | skip
  rename_i j
  obtain ⟨h3, rfl⟩ := R.opt_ok h'
  obtain ⟨hbg, e⟩ := opt_if (show (if big i && big j then some (rngL i (j - i).toNat) else none) = some xs from h3)
  subst e
  have hbg' := (Bool.and_eq_true _ _).mp hbg
  refine ⟨iRng2 (Wa P w K mg base L [a, b]), fun X hX => pi_range2 (gl_of hX hg) (by rw [hX.mg]; exact hm) (Wa.pa hX) ((star_of hs).trans (by rw [star_of hs2]; rfl)) (by rw [star_of hs2]; rfl), ?_⟩
  refine ⟨tCons (We P w K mg base L a) (tCons (We P w K mg base L b) tNil), fun X hX => pa_cons (We.pe hX) (pa_cons (We.pe hX) pa_nil (star_of hs2)) (star_of hs), ?_⟩
  refine ha F ρ own σ H E _ _ h1 _ fun v1 P1 own1 H1 r1 => ?_
  refine hb F ρ1 own1 σ H1 r1.drop.1 _ _ h2 _ fun v2 P2 own2 H2 r2 => ?_
  obtain ⟨rfl, _⟩ := r1.rep
  obtain ⟨rfl, _⟩ := r2.rep
  exact ⟨i, j, rfl, ⟨(big_of hbg'.1).1, (big_of hbg'.1).2, (big_of hbg'.2).1, (big_of hbg'.2).2⟩, q _ _ own2 H2 src_rng r2.drop.1 trivial (r1.drop.2.trans r2.drop.2)⟩
theorem listD_rep {H : Hp} {A : AP} {d : D} {xs : List D} {v : V} (h : Rp K H A d v []) (e : listD d = some xs) (hf : ∀ ys, d ≠ .lst true ys) : ∃ a vs, v = .ref a ∧ SqL K H a vs ∧ GL K a vs xs A A H := by
  cases d <;> simp [listD] at e
  · rename_i o ys
    subst e
    cases o with
    | true => exact absurd rfl (hf _)
    | false =>
      obtain ⟨a, vs, rfl, hs, hA, _, rr⟩ := h
      exact ⟨a, vs, rfl, SqL.of hs, .inl ⟨hs, hA⟩, rr⟩
  · subst e
    obtain ⟨a, vs, rfl, hs, _, rr⟩ := h
    exact ⟨a, vs, rfl, hs.seq, .inr hs, rr⟩
theorem frz_no {d : D} : ∀ ys, frz d ≠ .lst true ys := fun ys e => by cases d <;> simp [frz] at e
theorem iok_enum {a : Expr} {ia : E} {elts : List Expr} {kk : Nat} {p pos tpos : Pos} (ha : EOk P w K mg base cf L a ia) (hg : L.sc.names.lookup (Str.ofString "enumerate") = some .globalImplicit) (hm : mg (Str.ofString "enumerate") = none) (hs : ∀ x p, a ≠ .Starred x p) :
    IOk P w K mg base cf L (.Tuple elts kk tpos) (.Call (.Name (Str.ofString "enumerate") p) [a] [] pos) (.enum ia) := by
  intro F ρ own σ H E xs ρ' h' Z q
  rw [denI] at h'
  obtain ⟨x, ρ1, h1, h'⟩ := R.bind_ok h'
  obtain ⟨h2, rfl⟩ := R.opt_ok h'
  obtain ⟨ys, h3, rfl⟩ := Option.map_eq_some_iff.mp h2
  refine ⟨iEnumA K (Wa P w K mg base L [a]), fun X hX => by have e := hX.K; subst e; exact pi_enumA (gl_of hX hg) (by rw [hX.mg]; exact hm) (Wa.pa hX) (star_of hs), ?_⟩
  refine Wa.one ha hs E h1 fun v P1 own1 H1 r => ?_
  have g0 := r.frz E
  by_cases ht : ∃ zs, frz x = .tup zs
  · obtain ⟨zs, ht⟩ := ht
    rw [ht] at g0 h3
    cases h3
    obtain ⟨aa, vs, rfl, hq, rr⟩ := g0
    exact ⟨aa, vs, rfl, .inr ⟨hq, q _ _ own1 H1 src_enumT r.drop.1 ⟨hq, rr⟩ r.drop.2⟩⟩
  · have h3 : listD (frz x) = some ys := by
      generalize frz x = y at h3 ht
      cases y <;> first | (cases h3; done) | exact h3 | exact absurd ⟨_, rfl⟩ ht
    obtain ⟨aa, vs, rfl, hq, g⟩ := listD_rep g0 h3 frz_no
    exact ⟨aa, vs, rfl, .inl ⟨hq, q _ _ own1 H1 src_enum r.drop.1 g r.drop.2⟩⟩
theorem iok_zip {a b : Expr} {qf : Bool} {ia ib : E} {elts : List Expr} {kk : Nat} {p pos tpos : Pos} (ha : EOk P w K mg base cf L a ia) (hb : EOk P w K mg base cf L b ib) (hq : qf = true → ∀ j, j ∈ ia.U → j ∉ ib.W) (hg : L.sc.names.lookup (Str.ofString "zip") = some .globalImplicit)
    (hm : mg (Str.ofString "zip") = none) (hs : ∀ x p, a ≠ .Starred x p) (hs2 : ∀ x p, b ≠ .Starred x p) : IOk P w K mg base cf L (.Tuple elts kk tpos) (.Call (.Name (Str.ofString "zip") p) [a, b] [] pos) (.zip qf ia ib) := by
  intro F ρ own σ H E xs ρ' h' Z q
  rw [denI] at h'
  obtain ⟨x, ρ1, h1, h'⟩ := R.bind_ok h'
  obtain ⟨y, ρ2, h2, h'⟩ := R.bind_ok h'
  obtain ⟨hgq, h'⟩ := R.grd_ok h'
  obtain ⟨h3, rfl⟩ := R.opt_ok h'
  refine ⟨RZ.iZipA K (Wa P w K mg base L [a, b]), fun X hX => by have e := hX.K; subst e; exact RZ.pi_zipA (gl_of hX hg) (by rw [hX.mg]; exact hm) (Wa.pa hX) (star_of hs) (by rw [star_of hs2]; rfl), ?_⟩
  refine ⟨tCons (We P w K mg base L a) (tCons (We P w K mg base L b) tNil), fun X hX => pa_cons (We.pe hX) (pa_cons (We.pe hX) pa_nil (star_of hs2)) (star_of hs), ?_⟩
  refine ha F ρ own σ H E _ _ h1 _ fun v1 P1 own1 H1 r1 => ?_
  refine hb _ ρ1 own1 σ H1 r1.env _ _ h2 _ fun v2 P2 own2 H2 r2 => ?_
  obtain ⟨g1, g2, E2, p2⟩ := two_frz E r1 r2 (seq_cond hq hgq)
  unfold zipD at h3
  split at h3
  · rename_i ys zs e1 e2
    cases h3
    obtain ⟨aa, vs, rfl, hq1, G1⟩ := listD_rep g1 e1 frz_no
    obtain ⟨bb, us, rfl, hq2, G2⟩ := listD_rep g2 e2 frz_no
    refine ⟨aa, bb, vs, us, rfl, .inl ⟨hq1, hq2, q _ _ own2 H2 (src_zip (vs := vs) (us := us)) E2 ⟨G1.1, G2.1, zip_reps G1.2 G2.2⟩ p2⟩⟩
  · split at h3
    · rename_i ys zs e1 e2
      cases h3
      rw [e1] at g1
      rw [e2] at g2
      obtain ⟨aa, vs, rfl, hq1, G1⟩ := g1
      obtain ⟨bb, us, rfl, hq2, G2⟩ := g2
      exact ⟨aa, bb, vs, us, rfl, .inr ⟨hq1, hq2, q _ _ own2 H2 (src_zipT (vs := vs) (us := us)) E2 ⟨hq1, hq2, zip_reps G1 G2⟩ p2⟩⟩
    · cases h3
end
end Mn

/-! Mn N: slots that an evaluation leaves as they are; own nodes reached by keys. -/
namespace Mn
open PySem L2
section
variable {cf : Nat → List D → Option (D × List D)}
theorem lcL_same {own : List Nat} {q : Bool} {body : D → Env → R (Option D)} {W : List Nat} (hb : ∀ x ρ o ρ', body x ρ = .ok o ρ' → ρ'.length = ρ.length ∧ ∀ j, j ∉ W → ρ'[j]? = ρ[j]?) (hw : ∀ j, j ∈ own → j ∈ W) : ∀ {xs : List D} {ρ ρ' : Env} {ys : List D}, lcL own q body xs ρ = .ok ys ρ' → ρ'.length = ρ.length ∧ ∀ j, j ∉ W → ρ'[j]? = ρ[j]?
  | [], ρ, ρ', ys, h => by cases h; exact ⟨rfl, fun _ _ => rfl⟩
  | x :: xs, ρ, ρ', ys, h => by
    rw [lcL] at h
    obtain ⟨o, ρ1, h1, h⟩ := R.bind_ok h
    obtain ⟨ds, ρ2, h2, h⟩ := R.bind_ok h
    have wipe : ∀ (vs : List Nat) (ρ : Env), (∀ j, j ∈ vs → j ∈ W) → (wipeS ρ vs).length = ρ.length ∧ ∀ j, j ∉ W → (wipeS ρ vs)[j]? = ρ[j]? := by
      intro vs
      induction vs with
      | nil => intro ρ _; exact ⟨rfl, fun _ _ => rfl⟩
      | cons v vs ih =>
        intro ρ hv
        obtain ⟨i1, i2⟩ := ih ρ fun j hj => hv j (List.mem_cons_of_mem _ hj)
        refine ⟨by rw [wipeS, List.length_set]; exact i1, fun j hj => ?_⟩
        rw [wipeS, List.getElem?_set_ne fun e => hj (by rw [← e]; exact hv v List.mem_cons_self)]
        exact i2 j hj
    obtain ⟨w1, w2⟩ := wipe own ρ hw
    obtain ⟨b1, b2⟩ := hb _ _ _ _ h1
    obtain ⟨c1, c2⟩ := lcL_same hb hw h2
    have fin : ρ'.length = ρ2.length ∧ ∀ j, j ∉ W → ρ'[j]? = ρ2[j]? := by
      cases o with
      | none => cases h; exact ⟨rfl, fun _ _ => rfl⟩
      | some d => obtain ⟨_, h⟩ := R.grd_ok h; cases h; exact ⟨rfl, fun _ _ => rfl⟩
    exact ⟨by rw [fin.1, c1, b1, w1], fun j hj => by rw [fin.2 j hj, c2 j hj, b2 j hj, w2 j hj]⟩
theorem restS_same {ρ0 : Env} : ∀ {own : List Nat} {ρ : Env}, (restS ρ0 own ρ).length = ρ.length ∧ ∀ j, j ∉ own → (restS ρ0 own ρ)[j]? = ρ[j]?
  | [], ρ => ⟨rfl, fun _ _ => rfl⟩
  | v :: vs, ρ => by
    obtain ⟨h1, h2⟩ := restS_same (ρ0 := ρ0) (own := vs) (ρ := ρ)
    refine ⟨by rw [restS, List.length_set]; exact h1, fun j hj => ?_⟩
    rw [restS, List.getElem?_set_ne fun e => hj (by rw [← e]; exact List.mem_cons_self)]
    exact h2 j fun z => hj (List.mem_cons_of_mem _ z)
def SameS (W : List Nat) (ρ ρ' : Env) : Prop := ρ'.length = ρ.length ∧ ∀ j, j ∉ W → ρ'[j]? = ρ[j]?
theorem SameS.refl {W : List Nat} {ρ : Env} : SameS W ρ ρ := ⟨rfl, fun _ _ => rfl⟩
theorem SameS.trans {W W1 W2 : List Nat} {ρ ρ1 ρ2 : Env} (a : SameS W1 ρ ρ1) (b : SameS W2 ρ1 ρ2) (h1 : ∀ j, j ∈ W1 → j ∈ W) (h2 : ∀ j, j ∈ W2 → j ∈ W) : SameS W ρ ρ2 :=
  ⟨by rw [b.1, a.1], fun j hj => by rw [b.2 j fun z => hj (h2 j z), a.2 j fun z => hj (h1 j z)]⟩
theorem SameS.mono {W W1 : List Nat} {ρ ρ1 : Env} (a : SameS W1 ρ ρ1) (h1 : ∀ j, j ∈ W1 → j ∈ W) : SameS W ρ ρ1 := ⟨a.1, fun j hj => a.2 j fun z => hj (h1 j z)⟩
theorem SameS.set {W : List Nat} {ρ : Env} {i : Nat} {o : Option D} (h : i ∈ W) : SameS W ρ (ρ.set i o) := ⟨List.length_set, fun j hj => List.getElem?_set_ne fun e => hj (by rw [← e]; exact h)⟩
theorem mem_l {W1 W2 : List Nat} : ∀ j, j ∈ W1 → j ∈ W1 ++ W2 := fun _ h => List.mem_append_left _ h
theorem mem_r {W1 W2 : List Nat} : ∀ j, j ∈ W2 → j ∈ W1 ++ W2 := fun _ h => List.mem_append_right _ h
theorem putIos_len : ∀ {ρ ρ2 : Env} {is : List Nat} {os : List D}, putIos ρ is os = some ρ2 → SameS is ρ ρ2
  | ρ, ρ2, [], [], h => by cases h; exact .refl
  | ρ, ρ2, [], _ :: _, h => by cases h
  | ρ, ρ2, _ :: _, [], h => by cases h
  | ρ, ρ2, i :: is, d :: os, h => by
    unfold putIos at h
    split at h
    · exact (SameS.set List.mem_cons_self).trans (putIos_len h) (fun _ h => h) fun _ h => List.mem_cons_of_mem _ h
    · cases h
theorem R.kc_ok {r : Option (D × List D)} {ρ ρ' : Env} {d : D} (h : R.kc r ρ = .ok d ρ') : r = some (d, []) ∧ ρ' = ρ := by
  unfold R.kc at h
  split at h
  · cases h; exact ⟨rfl, rfl⟩
  · cases h
mutual
theorem den_same : ∀ {e : E} {ρ ρ' : Env} {d : D}, den cf e ρ = .ok d ρ' → SameS e.W ρ ρ'
  | .nm i, ρ, ρ', d, h => by rw [den] at h; obtain ⟨_, rfl⟩ := R.opt_ok h; exact .refl
  | .mv i, ρ, ρ', d, h => by rw [den] at h; obtain ⟨_, rfl⟩ := R.opt_ok h; exact .set (List.mem_singleton.mpr rfl)
  | .cst _, ρ, ρ', d, h => by rw [den] at h; cases h; exact .refl
  | .glob _ _, ρ, ρ', d, h => by rw [den] at h; cases h; exact .refl
  | .bin op q a b, ρ, ρ', d, h => by
    rw [den] at h
    obtain ⟨x, ρ1, h1, h⟩ := R.bind_ok h
    obtain ⟨y, ρ2, h2, h⟩ := R.bind_ok h
    obtain ⟨_, h⟩ := R.grd_ok h
    obtain ⟨_, rfl⟩ := R.opt_ok h
    exact (den_same h1).trans (den_same h2) mem_l mem_r
  | .neg a, ρ, ρ', d, h => by
    rw [den] at h
    obtain ⟨x, ρ1, h1, h⟩ := R.bind_ok h
    cases x <;> first | (cases h; done) | skip
    cases h
    exact den_same (e := a) h1
  | .cmp op q a b, ρ, ρ', d, h => by
    rw [den] at h
    obtain ⟨x, ρ1, h1, h⟩ := R.bind_ok h
    obtain ⟨y, ρ2, h2, h⟩ := R.bind_ok h
    obtain ⟨_, h⟩ := R.grd_ok h
    obtain ⟨_, rfl⟩ := R.opt_ok h
    exact (den_same h1).trans (den_same h2) mem_l mem_r
  | .chn o1 o2 q1 q2 a b c, ρ, ρ', d, h => by
    rw [den] at h
    obtain ⟨x, ρ1, h1, h⟩ := R.bind_ok h
    obtain ⟨y, ρ2, h2, h⟩ := R.bind_ok h
    obtain ⟨_, h⟩ := R.grd_ok h
    split at h
    · obtain ⟨z, ρ3, h3, h⟩ := R.bind_ok h
      obtain ⟨_, rfl⟩ := R.opt_ok h
      exact (den_same h1).trans ((den_same h2).trans (den_same h3) mem_l mem_r) mem_l mem_r
    · cases h
      exact (den_same h1).trans (den_same h2) mem_l fun _ h => mem_r _ (mem_l _ h)
    · cases h
  | .and a b, ρ, ρ', d, h => by
    rw [den] at h
    obtain ⟨x, ρ1, h1, h⟩ := R.bind_ok h
    split at h
    · exact (den_same h1).trans (den_same h) mem_l mem_r
    · cases h; exact (den_same h1).mono mem_l
    · cases h
  | .or a b, ρ, ρ', d, h => by
    rw [den] at h
    obtain ⟨x, ρ1, h1, h⟩ := R.bind_ok h
    split at h
    · cases h; exact (den_same h1).mono mem_l
    · exact (den_same h1).trans (den_same h) mem_l mem_r
    · cases h
  | .one a, ρ, ρ', d, h => by rw [den] at h; exact den_same (e := a) h
  | .shr a, ρ, ρ', d, h => by
    rw [den] at h
    obtain ⟨x, ρ1, h1, h⟩ := R.bind_ok h
    cases h
    exact den_same (e := a) h1
  | .srt a, ρ, ρ', d, h => by
    rw [den] at h
    obtain ⟨x, ρ1, h1, h2⟩ := R.bind_ok h
    obtain ⟨_, rfl⟩ := R.opt_ok h2
    exact den_same (e := a) h1
  | .mxd mn a _, ρ, ρ', d, h => by
    rw [den] at h
    obtain ⟨x, ρ1, h1, h2⟩ := R.bind_ok h
    obtain ⟨_, rfl⟩ := R.opt_ok h2
    exact den_same (e := a) h1
  | .callk f n ks arr dfl es es2, ρ, ρ', d, h => by
    rw [den] at h
    obtain ⟨x, ρ1, h1, h⟩ := R.bind_ok h
    obtain ⟨y, ρ2, h2, h⟩ := R.bind_ok h
    obtain ⟨_, h⟩ := R.grd_ok h
    obtain ⟨_, rfl⟩ := R.kc_ok h
    exact (denEs_same h1).trans (denEs_same h2) mem_l mem_r
  | .ixc i b, ρ, ρ', d, h => by
    rw [den] at h
    obtain ⟨_, ρ0, h0, h2⟩ := R.bind_ok h
    obtain ⟨_, rfl⟩ := R.opt_ok h0
    obtain ⟨x, ρ1, h1, h3⟩ := R.bind_ok h2
    obtain ⟨_, rfl⟩ := R.opt_ok h3
    exact den_same (e := b) h1
  | .not a, ρ, ρ', d, h => by
    rw [den] at h
    obtain ⟨x, ρ1, h1, h⟩ := R.bind_ok h
    obtain ⟨_, rfl⟩ := R.opt_ok h
    exact den_same (e := a) h1
  | .ifx c a b, ρ, ρ', d, h => by
    rw [den] at h
    obtain ⟨x, ρ1, h1, h⟩ := R.bind_ok h
    split at h
    · exact (den_same h1).trans (den_same h) mem_l fun _ h => mem_r _ (mem_l _ h)
    · exact (den_same h1).trans (den_same h) mem_l fun _ h => mem_r _ (mem_r _ h)
    · cases h
  | .tup es, ρ, ρ', d, h => by
    rw [den] at h
    obtain ⟨x, ρ1, h1, h⟩ := R.bind_ok h
    obtain ⟨_, h⟩ := R.grd_ok h
    cases h
    exact denEs_same h1
  | .lst es, ρ, ρ', d, h => by
    rw [den] at h
    obtain ⟨x, ρ1, h1, h⟩ := R.bind_ok h
    obtain ⟨_, h⟩ := R.grd_ok h
    cases h
    exact denEs_same h1
  | .dct ks es, ρ, ρ', d, h => by
    rw [den] at h
    obtain ⟨x, ρ1, h1, h⟩ := R.bind_ok h
    cases h
    exact denEs_same h1
  | .ix q a b, ρ, ρ', d, h => by
    rw [den] at h
    obtain ⟨x, ρ1, h1, h⟩ := R.bind_ok h
    obtain ⟨y, ρ2, h2, h⟩ := R.bind_ok h
    obtain ⟨_, h⟩ := R.grd_ok h
    obtain ⟨_, rfl⟩ := R.opt_ok h
    exact (den_same h1).trans (den_same h2) mem_l mem_r
  | .sl q1 q2 a l u, ρ, ρ', d, h => by
    rw [den] at h
    obtain ⟨x, ρ1, h1, h⟩ := R.bind_ok h
    obtain ⟨y, ρ2, h2, h⟩ := R.bind_ok h
    obtain ⟨z, ρ3, h3, h⟩ := R.bind_ok h
    obtain ⟨_, h⟩ := R.grd_ok h
    obtain ⟨_, rfl⟩ := R.opt_ok h
    exact (den_same h1).trans ((denO_same h2).trans (denO_same h3) mem_l mem_r) mem_l mem_r
  | .rev a, ρ, ρ', d, h => by
    rw [den] at h
    obtain ⟨x, ρ1, h1, h⟩ := R.bind_ok h
    split at h <;> first | (cases h; exact den_same (e := a) h1) | cases h
  | .call q f es, ρ, ρ', d, h => by
    obtain ⟨xs, ρ1, os, h1, _, _, h4⟩ := den_call h
    exact (denEs_same h1).trans (putIos_len h4) (fun _ h => h) fun j h => ios_W es j h
  | .bi b es, ρ, ρ', d, h => by
    rw [den] at h
    obtain ⟨x, ρ1, h1, h⟩ := R.bind_ok h
    obtain ⟨_, rfl⟩ := R.opt_ok h
    exact denEs_same h1
  | .mt m q o es, ρ, ρ', d, h => by
    rw [den] at h
    obtain ⟨x, ρ1, h1, h⟩ := R.bind_ok h
    obtain ⟨y, ρ2, h2, h⟩ := R.bind_ok h
    obtain ⟨_, h⟩ := R.grd_ok h
    obtain ⟨_, rfl⟩ := R.opt_ok h
    exact (den_same h1).trans (denEs_same h2) mem_l mem_r
  | .mu m p es, ρ, ρ', d, h => by
    rw [den] at h
    obtain ⟨x, ρ1, h1, h⟩ := R.bind_ok h
    obtain ⟨y, ρ2, h2, h⟩ := R.bind_ok h
    obtain ⟨_, h⟩ := R.grd_ok h
    have h12 : SameS (p.W ++ (p.slot :: es.W)) ρ ρ2 := (denP_same h1).trans (denEs_same h2) mem_l fun _ h => mem_r _ (List.mem_cons_of_mem _ h)
    split at h
    · cases h
    · split at h
      · cases h
      · split at h
        · cases h
        · cases h
          exact h12.trans (SameS.set (W := [p.slot]) (List.mem_singleton.mpr rfl)) (fun _ h => h) fun j hj => mem_r _ (by rw [List.mem_singleton.mp hj]; exact List.mem_cons_self)
  | .isi a cs, ρ, ρ', d, h => by
    rw [den] at h
    obtain ⟨x, ρ1, h1, h⟩ := R.bind_ok h
    obtain ⟨_, rfl⟩ := R.opt_ok h
    exact den_same (e := a) h1
  | .lc own q q2 t vs it ifs elt, ρ, ρ', d, h => by
    rw [den] at h
    obtain ⟨x, ρ1, h1, h⟩ := R.bind_ok h
    obtain ⟨_, h⟩ := R.grd_ok h
    obtain ⟨ys, ρ2, h2, h⟩ := R.bind_ok h
    obtain ⟨_, h⟩ := R.grd_ok h
    cases h
    have hb : ∀ x ρ o ρ', ((denT cf t x ρ).bind fun _ ρ => (den1 cf ifs ρ).bind fun b ρ => if b = true then (den cf elt ρ).bind fun y ρ => .ok (some y) ρ else .ok none ρ) = .ok o ρ' → SameS (own ++ (t.W ++ (it.W ++ (ifs.W ++ elt.W)))) ρ ρ' := fun x ρ o ρ' h => by
      obtain ⟨_, r1, g1, h⟩ := R.bind_ok h
      obtain ⟨b, r2, g2, h⟩ := R.bind_ok h
      have s12 := (denT_same g1).trans (den1_same g2) (W := own ++ (t.W ++ (it.W ++ (ifs.W ++ elt.W)))) (fun _ h => mem_r _ (mem_l _ h)) fun _ h => mem_r _ (mem_r _ (mem_r _ (mem_l _ h)))
      split at h
      · obtain ⟨y, r3, g3, h⟩ := R.bind_ok h
        cases h
        exact s12.trans (den_same g3) (fun _ h => h) fun _ h => mem_r _ (mem_r _ (mem_r _ (mem_r _ h)))
      · cases h; exact s12
    have l := lcL_same (W := own ++ (t.W ++ (it.W ++ (ifs.W ++ elt.W)))) hb mem_l h2
    have s := restS_same (ρ0 := ρ1) (own := own) (ρ := ρ2)
    refine ((denI_same h1).trans (SameS.trans (W := own ++ (t.W ++ (it.W ++ (ifs.W ++ elt.W)))) l ⟨s.1, s.2⟩ (fun _ h => h) mem_l) (fun _ h => mem_r _ (mem_r _ (mem_l _ h))) fun _ h => h)
theorem den1_same : ∀ {e : E1} {ρ ρ' : Env} {d : Bool}, den1 cf e ρ = .ok d ρ' → SameS e.W ρ ρ'
  | .no, ρ, ρ', d, h => by rw [den1] at h; cases h; exact .refl
  | .yes e, ρ, ρ', d, h => by
    rw [den1] at h
    obtain ⟨x, ρ1, h1, h⟩ := R.bind_ok h
    obtain ⟨_, rfl⟩ := R.opt_ok h
    exact den_same h1
theorem denO_same : ∀ {e : E1} {ρ ρ' : Env} {d : Option Int}, denO cf e ρ = .ok d ρ' → SameS e.W ρ ρ'
  | .no, ρ, ρ', d, h => by rw [denO] at h; cases h; exact .refl
  | .yes e, ρ, ρ', d, h => by
    rw [denO] at h
    obtain ⟨x, ρ1, h1, h⟩ := R.bind_ok h
    cases x <;> first | (cases h; done) | skip
    cases h
    exact den_same h1
theorem denEs_same : ∀ {es : Es} {ρ ρ' : Env} {ds : List D}, denEs cf es ρ = .ok ds ρ' → SameS es.W ρ ρ'
  | .nil, ρ, ρ', d, h => by rw [denEs] at h; cases h; exact .refl
  | .cons q e es, ρ, ρ', d, h => by
    rw [denEs] at h
    obtain ⟨x, ρ1, h1, h⟩ := R.bind_ok h
    obtain ⟨y, ρ2, h2, h⟩ := R.bind_ok h
    obtain ⟨_, h⟩ := R.grd_ok h
    cases h
    exact (den_same h1).trans (denEs_same h2) mem_l mem_r
  | .io i es, ρ, ρ', d, h => by
    rw [denEs] at h
    obtain ⟨_, h⟩ := R.grd_ok h
    obtain ⟨x, ρ1, h1, h⟩ := R.bind_ok h
    obtain ⟨_, rfl⟩ := R.opt_ok h
    exact (denEs_same h1).mono fun _ h => List.mem_cons_of_mem _ h
theorem denI_same : ∀ {i : I} {ρ ρ' : Env} {ds : List D}, denI cf i ρ = .ok ds ρ' → SameS i.W ρ ρ'
  | .seq e, ρ, ρ', d, h => by
    rw [denI] at h
    obtain ⟨x, ρ1, h1, h⟩ := R.bind_ok h
    obtain ⟨_, rfl⟩ := R.opt_ok h
    exact den_same h1
  | .rng1 e, ρ, ρ', d, h => by
    rw [denI] at h
    obtain ⟨x, ρ1, h1, h⟩ := R.bind_ok h
    cases x <;> first | (cases h; done) | skip
    obtain ⟨_, rfl⟩ := R.opt_ok h
    exact den_same h1
  | .rng2 a b, ρ, ρ', d, h => by
    rw [denI] at h
    obtain ⟨x, ρ1, h1, h⟩ := R.bind_ok h
    cases x <;> first | (cases h; done) | skip
    obtain ⟨y, ρ2, h2, h⟩ := R.bind_ok (show (den cf b ρ1).bind _ = _ from h)
    cases y <;> first | (cases h; done) | skip
    obtain ⟨_, rfl⟩ := R.opt_ok h
    exact (den_same h1).trans (den_same h2) mem_l mem_r
  | .enum e, ρ, ρ', d, h => by
    rw [denI] at h
    obtain ⟨x, ρ1, h1, h⟩ := R.bind_ok h
    obtain ⟨_, rfl⟩ := R.opt_ok h
    exact den_same h1
  | .zip q a b, ρ, ρ', d, h => by
    rw [denI] at h
    obtain ⟨x, ρ1, h1, h⟩ := R.bind_ok h
    obtain ⟨y, ρ2, h2, h⟩ := R.bind_ok h
    obtain ⟨_, h⟩ := R.grd_ok h
    obtain ⟨_, rfl⟩ := R.opt_ok h
    exact (den_same h1).trans (den_same h2) mem_l mem_r
theorem denP_same : ∀ {p : Pth} {ρ ρ' : Env} {ds : List D}, denP cf p ρ = .ok ds ρ' → SameS p.W ρ ρ'
  | .sl i, ρ, ρ', d, h => by rw [denP] at h; cases h; exact .refl
  | .ix p e, ρ, ρ', d, h => by
    rw [denP] at h
    obtain ⟨x, ρ1, h1, h⟩ := R.bind_ok h
    obtain ⟨y, ρ2, h2, h⟩ := R.bind_ok h
    obtain ⟨_, h⟩ := R.grd_ok h
    cases h
    exact (denP_same h1).trans (den_same h2) mem_l mem_r
theorem denT_same : ∀ {t : T} {d : D} {ρ ρ' : Env} {u : Unit}, denT cf t d ρ = .ok u ρ' → SameS t.W ρ ρ'
  | .nm i, d, ρ, ρ', u, h => by
    rw [denT] at h
    unfold setS at h
    split at h
    · cases h; exact .set (List.mem_singleton.mpr rfl)
    · cases h
  | .tup ts, d, ρ, ρ', u, h => by
    cases d with
    | tup xs => rw [denT] at h; exact denTs_same h
    | _ => simp [denT] at h
  | .sub p e, v, ρ, ρ', u, h => by
    rw [denT] at h
    obtain ⟨x, ρ1, h1, h⟩ := R.bind_ok h
    obtain ⟨y, ρ2, h2, h⟩ := R.bind_ok h
    obtain ⟨_, h⟩ := R.grd_ok h
    have h12 : SameS (p.slot :: (p.W ++ e.W)) ρ ρ2 := (denP_same h1).trans (den_same h2) (fun _ h => List.mem_cons_of_mem _ (mem_l _ h)) fun _ h => List.mem_cons_of_mem _ (mem_r _ h)
    split at h
    · cases h
    · split at h
      · cases h
      · split at h
        · cases h
        · cases h
          exact h12.trans (SameS.set (W := [p.slot]) (List.mem_singleton.mpr rfl)) (fun _ h => h) fun j hj => by rw [List.mem_singleton.mp hj]; exact List.mem_cons_self
theorem denTs_same : ∀ {ts : Ts} {ds : List D} {ρ ρ' : Env} {u : Unit}, denTs cf ts ds ρ = .ok u ρ' → SameS ts.W ρ ρ'
  | .nil, [], ρ, ρ', u, h => by rw [denTs] at h; cases h; exact .refl
  | .nil, _ :: _, ρ, ρ', u, h => by simp [denTs] at h
  | .cons t ts, [], ρ, ρ', u, h => by simp [denTs] at h
  | .cons t ts, d :: ds, ρ, ρ', u, h => by
    rw [denTs] at h
    obtain ⟨x, ρ1, h1, h⟩ := R.bind_ok h
    exact (denT_same h1).trans (denTs_same h) mem_l mem_r
end
end
end Mn

/-! Mn O: own nodes reached by keys, and changed. -/
namespace Mn
open PySem L2
/-- from a value by keys, through nodes among P -/
inductive At (H : Hp) (P : List Addr) : V → List D → V → Prop
  | nil {v : V} : At H P v [] v
  | lst {a : Addr} {vs : List V} {i : Int} {u v : V} {ks : List D} : a ∈ P → H a = some (.lst vs) → atI vs i = some u → At H P u ks v → At H P (.ref a) (.int i :: ks) v
  | dk {a : Addr} {kvs : List (Key × V)} {k : D} {c : Key} {u v : V} {ks : List D} : a ∈ P → H a = some (.dK kvs) → keyD k = some c → valV kvs c = some u → At H P u ks v → At H P (.ref a) (k :: ks) v
section
variable {K : PySem.W.Frag} {H H' : Hp} {A A' : AP} {P P' : List Addr}
theorem At.det {v : V} {ks : List D} {u : V} (h : At H P v ks u) : ∀ {u' : V}, At H P' v ks u' → u = u' := by
  induction h with
  | nil => intro u' h'; cases h'; rfl
  | lst ha e1 e2 _ ih =>
    intro u' h'
    cases h' with
    | lst ha' f1 f2 g =>
      rw [e1] at f1; cases f1
      rw [e2] at f2; cases f2
      exact ih g
    | dk ha' f1 f2 f3 g => rw [e1] at f1; cases f1
  | dk ha e1 e2 e3 _ ih =>
    intro u' h'
    cases h' with
    | lst ha' f1 f2 g => rw [e1] at f1; cases f1
    | dk ha' f1 f2 f3 g =>
      rw [e1] at f1; cases f1
      rw [e2] at f2; cases f2
      rw [e3] at f3; cases f3
      exact ih g
theorem At.mono {v : V} {ks : List D} {u : V} (h : At H P v ks u) (k : ∀ b o, b ∈ P → H b = some o → H' b = some o) : At H' P v ks u := by
  induction h with
  | nil => exact .nil
  | lst ha e1 e2 _ ih => exact .lst ha (k _ _ ha e1) e2 ih
  | dk ha e1 e2 e3 _ ih => exact .dk ha (k _ _ ha e1) e2 e3 ih
theorem At.sub {v : V} {ks : List D} {u : V} (h : At H P v ks u) (k : ∀ b, b ∈ P → b ∈ P') : At H P' v ks u := by
  induction h with
  | nil => exact .nil
  | lst ha e1 e2 _ ih => exact .lst (k _ ha) e1 e2 ih
  | dk ha e1 e2 e3 _ ih => exact .dk (k _ ha) e1 e2 e3 ih
theorem At.snoc {v : V} {ks : List D} {u : V} (h : At H P v ks u) : ∀ {k : D} {z : V}, At H P u [k] z → At H P v (ks ++ [k]) z := by
  induction h with
  | nil => intro k z h; exact h
  | lst ha e1 e2 _ ih => intro k z h; exact .lst ha e1 e2 (ih h)
  | dk ha e1 e2 e3 _ ih => intro k z h; exact .dk ha e1 e2 e3 (ih h)
theorem Rps.lens : ∀ {xs : List D} {vs : List V} {P : List Addr} {j : Nat} {c : D}, Rps K H A xs vs P → xs[j]? = some c → ∃ v P1 Pa Pb, vs[j]? = some v ∧ P = Pa ++ P1 ++ Pb ∧ Rp K H A c v P1 ∧
    ∀ (H' : Hp) (A' : AP) (c' : D) (v' : V) (P1' : List Addr), (∀ b o, H b = some o → (b ∈ Pa ++ Pb ∨ A b ∨ Still o) → H' b = some o) → (∀ a o, H a = some o → A a → A' a) → Rp K H' A' c' v' P1' → Rps K H' A' (xs.set j c') (vs.set j v') (Pa ++ P1' ++ Pb)
  | [], vs, P, j, c, h, e => by simp at e
  | x :: xs, vs, P, 0, c, ⟨v, r, P1, P2, e1, ep, h1, h2⟩, e => by
    simp at e
    subst e
    refine ⟨v, P1, [], P2, by rw [e1]; rfl, by rw [ep]; rfl, h1, fun H' A' c' v' P1' k ka r' => ?_⟩
    rw [e1]
    exact ⟨v', r, P1', P2, rfl, rfl, r', h2.mono (fun b o e q => k b o e (q.elim (fun z => .inl (by simpa using z)) .inr)) ka⟩
  | x :: xs, vs, P, j + 1, c, ⟨v, r, P1, P2, e1, ep, h1, h2⟩, e => by
    obtain ⟨u, Q1, Qa, Qb, f1, f2, f3, f4⟩ := Rps.lens (j := j) h2 (by simpa using e)
    refine ⟨u, Q1, P1 ++ Qa, Qb, by rw [e1]; simpa using f1, by rw [ep, f2]; simp, f3, fun H' A' c' v' P1' k ka r' => ?_⟩
    rw [e1]
    refine ⟨v, r.set j v', P1, Qa ++ P1' ++ Qb, rfl, by simp, h1.mono (fun b o e q => k b o e (q.elim (fun z => .inl ?_) .inr)) ka, f4 H' A' c' v' P1' (fun b o e q => k b o e (q.elim (fun z => .inl ?_) .inr)) ka r'⟩
    · exact List.mem_append_left _ (List.mem_append_left _ z)
    · rcases List.mem_append.mp z with z | z
      · exact List.mem_append_left _ (List.mem_append_right _ z)
      · exact List.mem_append_right _ z
theorem set_self {α : Type} : ∀ {xs : List α} {j : Nat} {v : α}, xs[j]? = some v → xs.set j v = xs
  | [], j, v, h => by simp at h
  | x :: xs, 0, v, h => by simp at h; subst h; rfl
  | x :: xs, j + 1, v, h => by rw [List.set_cons_succ, set_self (by simpa using h)]
theorem atI_ix {α : Type} {xs : List α} {i : Int} {c : α} (h : atI xs i = some c) : ∃ j, ixN xs.length i = some j ∧ xs[j]? = some c := by
  unfold L2.atI at h
  exact Option.bind_eq_some_iff.mp h
theorem getK_ix {k : Key} {d : D} : ∀ {ks : List Key} {xs : List D}, getK k ks xs = some d → ∃ j, ks.findIdx? (· = k) = some j ∧ xs[j]? = some d
  | [], xs, h => by cases xs <;> cases h
  | c :: ks, [], h => by cases h
  | c :: ks, x :: xs, h => by
    unfold getK at h
    by_cases hc : c = k
    · rw [if_pos hc] at h
      cases h
      exact ⟨0, by simp [List.findIdx?_cons, hc], rfl⟩
    · rw [if_neg hc] at h
      obtain ⟨j, h1, h2⟩ := getK_ix h
      exact ⟨j + 1, by simp [List.findIdx?_cons, hc, h1], by simpa using h2⟩
theorem valV_at {k : Key} : ∀ {ks : List Key} {vs : List V} {j : Nat} {v : V}, ks.findIdx? (· = k) = some j → vs[j]? = some v → valV (ks.zip vs) k = some v
  | [], vs, j, v, h, _ => by simp at h
  | c :: ks, [], j, v, _, h => by simp at h
  | c :: ks, u :: vs, j, v, h, g => by
    by_cases hc : c = k
    · rw [List.findIdx?_cons] at h
      simp [hc] at h
      subst h
      simp at g
      subst g
      rw [List.zip_cons_cons]
      exact valV_pos hc
    · rw [List.findIdx?_cons] at h
      simp [hc] at h
      obtain ⟨i, h1, rfl⟩ := h
      rw [List.zip_cons_cons, valV_neg (p := (c, u)) hc]
      exact valV_at h1 (by simpa using g)
theorem findIdx_lt {k : Key} : ∀ {ks : List Key} {j : Nat}, ks.findIdx? (· = k) = some j → j < ks.length
  | ks, j, h => by
    have := List.findIdx?_eq_some_iff_getElem.mp h
    exact this.1
theorem mem3 {b : Addr} {Pa Pc Pb Px Py : List Addr} (h : b ∈ (Px ++ Pa) ++ (Pb ++ Py)) : b ∈ Pa ++ Pb ∨ b ∈ Px ++ Py := by
  rcases List.mem_append.mp h with h | h
  · rcases List.mem_append.mp h with h | h
    · exact .inr (List.mem_append_left _ h)
    · exact .inl (List.mem_append_left _ h)
  · rcases List.mem_append.mp h with h | h
    · exact .inl (List.mem_append_right _ h)
    · exact .inr (List.mem_append_right _ h)
/-- a node by keys, and the tree with another node in its place -/
theorem Rp.lens : ∀ {ks : List D} {d : D} {v : V} {P : List Addr} {c : D}, Rp K H A d v P → getP d ks = some c → ∃ u Pc Pa Pb, At H P v ks u ∧ P = Pa ++ Pc ++ Pb ∧ Rp K H A c u Pc ∧
    ∀ (H' : Hp) (A' : AP) (c' d' : D) (Pc' : List Addr), putP d ks c' = some d' → (∀ b o, H b = some o → (b ∈ Pa ++ Pb ∨ A b ∨ Still o) → H' b = some o) → (∀ a o, H a = some o → A a → A' a) → Rp K H' A' c' u Pc' → Rp K H' A' d' v (Pa ++ Pc' ++ Pb)
  | [], d, v, P, c, h, e => by
    have e' : d = c := by cases d <;> simpa [getP] using e
    subst e'
    refine ⟨v, P, [], [], .nil, by simp, h, fun H' A' c' d' Pc' hp _ _ r => ?_⟩
    have hp' : c' = d' := by cases d <;> simpa [putP] using hp
    subst hp'
    simpa using r
  | k :: ks, d, v, P, c, h, e => by
    cases d with
    | lst o xs =>
      cases o with
      | false => cases k <;> simp [getP] at e
      | true =>
        cases k with
        | int i =>
          obtain ⟨c1, g1, g2⟩ := Option.bind_eq_some_iff.mp (show (atI xs i).bind (fun c => getP c ks) = some c by simpa [getP] using e)
          obtain ⟨a, vs, P', rfl, hs, rfl, hr⟩ := h
          obtain ⟨j, j1, j2⟩ := atI_ix g1
          obtain ⟨u1, Q1, Qa, Qb, f1, f2, f3, f4⟩ := Rps.lens hr j2
          obtain ⟨u, Pc, Ra, Rb, t1, t2, t3, t4⟩ := Rp.lens f3 g2
          refine ⟨u, Pc, (a :: Qa) ++ Ra, Rb ++ Qb, .lst List.mem_cons_self hs (by unfold L2.atI; rw [hr.length, j1]; exact f1) (t1.sub fun b hb => ?_), by rw [f2, t2]; simp, t3, fun H' A' c' d' Pc' hp hk ka r => ?_⟩
          · rw [f2]; exact List.mem_cons_of_mem _ (List.mem_append_left _ (List.mem_append_right _ hb))
          · have hp1 : ((atI xs i).isSome = true) := by rw [g1]; rfl
            obtain ⟨j', jj1, hp2⟩ := Option.bind_eq_some_iff.mp (show (ixN xs.length i).bind (fun j => (xs[j]?).bind fun c => (putP c ks c').map fun c'' => D.lst true (xs.set j c'')) = some d' by simpa [putP] using hp)
            rw [j1] at jj1; cases jj1
            obtain ⟨c2, jj2, hp3⟩ := Option.bind_eq_some_iff.mp hp2
            rw [j2] at jj2; cases jj2
            obtain ⟨c'', hp4, rfl⟩ := Option.map_eq_some_iff.mp hp3
            have r1 := t4 H' A' c' c'' Pc' hp4 (fun b o e q => hk b o e (q.elim (fun z => .inl ?_) .inr)) ka r
            · have r2 := f4 H' A' c'' u1 _ (fun b o e q => hk b o e (q.elim (fun z => .inl ?_) .inr)) ka r1
              · refine ⟨a, vs, Qa ++ (Ra ++ Pc' ++ Rb) ++ Qb, rfl, hk _ _ hs (.inl (by simp)), by simp, ?_⟩
                rw [set_self f1] at r2
                exact r2
              · rcases List.mem_append.mp z with z | z
                · exact List.mem_append_left _ (List.mem_append_left _ (List.mem_cons_of_mem _ z))
                · exact List.mem_append_right _ (List.mem_append_right _ z)
            · rcases List.mem_append.mp z with z | z
              · exact List.mem_append_left _ (List.mem_append_right _ z)
              · exact List.mem_append_right _ (List.mem_append_left _ z)
        | _ => simp [getP] at e
    | dk o cs xs =>
      cases o with
      | false => simp [getP] at e
      | true =>
        obtain ⟨kk, g0, g1⟩ := Option.bind_eq_some_iff.mp (show (keyD k).bind (fun c => (getK c cs xs).bind fun d => getP d ks) = some c by simpa [getP] using e)
        obtain ⟨c1, g2, g3⟩ := Option.bind_eq_some_iff.mp g1
        obtain ⟨a, vs, P', rfl, hs, hl, rfl, hr⟩ := h
        obtain ⟨j, j1, j2⟩ := getK_ix g2
        obtain ⟨u1, Q1, Qa, Qb, f1, f2, f3, f4⟩ := Rps.lens hr j2
        obtain ⟨u, Pc, Ra, Rb, t1, t2, t3, t4⟩ := Rp.lens f3 g3
        refine ⟨u, Pc, (a :: Qa) ++ Ra, Rb ++ Qb, .dk List.mem_cons_self hs g0 (valV_at j1 f1) (t1.sub fun b hb => ?_), by rw [f2, t2]; simp, t3, fun H' A' c' d' Pc' hp hk ka r => ?_⟩
        · rw [f2]; exact List.mem_cons_of_mem _ (List.mem_append_left _ (List.mem_append_right _ hb))
        · obtain ⟨kk', k1, hp1⟩ := Option.bind_eq_some_iff.mp (show (keyD k).bind (fun c => (cs.findIdx? (· = c)).bind fun j => (xs[j]?).bind fun d => (putP d ks c').map fun d' => D.dk true cs (xs.set j d')) = some d' by simpa [putP] using hp)
          rw [g0] at k1; cases k1
          obtain ⟨j', jj1, hp2⟩ := Option.bind_eq_some_iff.mp hp1
          rw [j1] at jj1; cases jj1
          obtain ⟨c2, jj2, hp3⟩ := Option.bind_eq_some_iff.mp hp2
          rw [j2] at jj2; cases jj2
          obtain ⟨c'', hp4, rfl⟩ := Option.map_eq_some_iff.mp hp3
          have r1 := t4 H' A' c' c'' Pc' hp4 (fun b o e q => hk b o e (q.elim (fun z => .inl ?_) .inr)) ka r
          · have r2 := f4 H' A' c'' u1 _ (fun b o e q => hk b o e (q.elim (fun z => .inl ?_) .inr)) ka r1
            · refine ⟨a, vs, Qa ++ (Ra ++ Pc' ++ Rb) ++ Qb, rfl, hk _ _ hs (.inl (by simp)), hl, by simp, ?_⟩
              rw [set_self f1] at r2
              exact r2
            · rcases List.mem_append.mp z with z | z
              · exact List.mem_append_left _ (List.mem_append_left _ (List.mem_cons_of_mem _ z))
              · exact List.mem_append_right _ (List.mem_append_right _ z)
          · rcases List.mem_append.mp z with z | z
            · exact List.mem_append_left _ (List.mem_append_right _ z)
            · exact List.mem_append_right _ (List.mem_append_left _ z)
    | _ => simp [getP] at e
end
end Mn

/-! Mn P: methods that change a list; a[k] = v. -/
namespace Mn
open PySem L2
def MU.name : MU → String
  | .append => "append" | .extend => "extend" | .reverse => "reverse" | .insert => "insert" | .pop0 => "pop" | .pop1 => "pop" | .clear => "clear" | .remove => "remove" | .update => "update"
def MU.id (m : MU) : String := "list." ++ m.name
def Wm (P : Program) (w : World) (K : PySem.W.Frag) (mg : Str → Option Value) (base : Heap) (L : Lx) (id : String) : V → List V → Hp → VK → Prop := fun x vs H Q => ∃ t : V → List V → Hp → VK → Prop, (∀ X, InX P w K mg base L X → MtR X id t) ∧ t x vs H Q
section
variable {P : Program} {w : World} {K : PySem.W.Frag} {mg : Str → Option Value} {base : Heap} {cf : Nat → List D → Option (D × List D)} {L : Lx}
theorem Wm.mt {id : String} {X : Cx} (h : InX P w K mg base L X) : MtR X id (Wm P w K mg base L id) := fun pins s σ H x xs v us Q I r1 r2 ⟨_, p, q⟩ => p X h pins s σ H x xs v us Q I r1 r2 q
section
variable {H H' : Hp} {A A' : AP} {Pc Py : List Addr}
/-- one object is changed -/
def But (a : Addr) (H H' : Hp) : Prop := (∀ b o, H b = some o → b ≠ a → H' b = some o) ∧ ∀ b, H b ≠ none → H' b ≠ none
theorem But.upd {a : Addr} {o : HO} : But a H (upd H a o) := ⟨fun b u e n => by rw [upd_ne n]; exact e, fun b e => by
  by_cases h : b = a
  · rw [h, upd_same]; simp
  · rw [upd_ne h]; exact e⟩
theorem Rps.but {ds : List D} {vs : List V} {P : List Addr} {a : Addr} (h : Rps K H A ds vs P) (b : But a H H') (h1 : a ∉ P) (h2 : ¬ A a) (h3 : ∀ o, H a = some o → ¬ Still o) : Rps K H' A ds vs P :=
  h.mono (fun c o e q => b.1 c o e fun z => by subst z; exact q.elim h1 fun q => q.elim h2 (h3 o e)) fun _ _ _ z => z
theorem Rp.but {d : D} {v : V} {P : List Addr} {a : Addr} (h : Rp K H A d v P) (b : But a H H') (h1 : a ∉ P) (h2 : ¬ A a) (h3 : ∀ o, H a = some o → ¬ Still o) : Rp K H' A d v P :=
  h.mono (fun c o e q => b.1 c o e fun z => by subst z; exact q.elim h1 fun q => q.elim h2 (h3 o e)) fun _ _ _ z => z
theorem muD_ok {m : MU} {c r c' : D} {ys : List D} {u : V} {us : List V} (h : muD m c ys = some (r, c')) (rc : Rp K H A c u Pc) (ry : Rps K H A ys us Py) (nd : (Pc ++ Py).Nodup) (hA : ∀ b, b ∈ Pc ++ Py → ¬ A b) :
    ∃ a, u = .ref a ∧ a ∈ Pc ∧ (∃ xs, H a = some (.lst xs)) ∧ ∀ Q : VK, (∀ vr H' Pc' Pr, But a H H' → Rp K H' A c' u Pc' → Rp K H' A r vr Pr → (Pc' ++ Pr).Nodup → (∀ b, b ∈ Pc' ++ Pr → b ∈ Pc ++ Py) → Q vr H') → Wm P w K mg base L m.id u us H Q := by
  unfold muD at h
  split at h
  · rename_i xs y
    obtain ⟨hz, e⟩ := opt_if h
    cases e
    obtain ⟨a, vs, P', rfl, hs, rfl, hr⟩ := rc
    obtain ⟨v, rs, P1, P2, rfl, rfl, g1, g2⟩ := ry
    obtain ⟨e1, e2⟩ := g2
    subst e1 e2
    have ha : a ∉ P' ∧ a ∉ P1 := by
      rw [List.cons_append, List.nodup_cons] at nd
      exact ⟨fun z => nd.1 (List.mem_append_left _ z), fun z => nd.1 (List.mem_append_right _ (by simpa using z))⟩
    refine ⟨a, rfl, List.mem_cons_self, ⟨vs, hs⟩, fun Q q => ⟨_, fun X _ => mt_append, a, vs, v, rfl, rfl, hs, by rw [hr.length]; exact hz, q _ _ (a :: (P' ++ P1)) [] But.upd ?_ ⟨rfl, rfl⟩ (by simpa using nd) (by simp)⟩⟩
    have hst : ∀ o, H a = some o → ¬ Still o := fun o e => by rw [hs] at e; cases e; exact id
    have hAa := hA a (by simp)
    exact ⟨a, _, _, rfl, upd_same, rfl, Rps.append (hr.but But.upd ha.1 hAa hst) (Rps.one (g1.but But.upd ha.2 hAa hst))⟩
  · rename_i xs
    cases h
    obtain ⟨a, vs, P', rfl, hs, rfl, hr⟩ := rc
    obtain ⟨rfl, rfl⟩ := ry
    rw [List.append_nil] at nd
    have ha := (List.nodup_cons.mp nd).1
    have hst : ∀ o, H a = some o → ¬ Still o := fun o e => by rw [hs] at e; cases e; exact id
    have hAa := hA a (by simp)
    have rev : ∀ {xs : List D} {vs : List V} {P : List Addr}, Rps K (upd H a (.lst vs)) A xs vs P → True := fun _ => trivial
    have rev : ∀ {H1 : Hp} {xs : List D} {vs : List V} {P : List Addr}, Rps K H1 A xs vs P → ∃ P', Rps K H1 A xs.reverse vs.reverse P' ∧ P'.Perm P := by
      intro H1 xs
      induction xs with
      | nil => intro vs P h; rw [h.1, h.2]; exact ⟨[], ⟨rfl, rfl⟩, .refl _⟩
      | cons y ys ih =>
        intro vs P h
        obtain ⟨v, r, P1, P2, e, ep, g1, g2⟩ := h
        obtain ⟨Q, i1, i2⟩ := ih g2
        rw [e, List.reverse_cons, List.reverse_cons, ep]
        exact ⟨Q ++ P1, Rps.append i1 (Rps.one g1), (i2.append_right P1).trans List.perm_append_comm⟩
    obtain ⟨Q1, i1, i2⟩ := rev (hr.but (H' := upd H a (.lst vs.reverse)) But.upd ha hAa hst)
    refine ⟨a, rfl, List.mem_cons_self, ⟨vs, hs⟩, fun Q q => ⟨_, fun X _ => mt_reverse, a, vs, rfl, rfl, hs, q _ _ (a :: Q1) [] But.upd ⟨a, _, _, rfl, upd_same, rfl, i1⟩ ⟨rfl, rfl⟩ ?_ fun b hb => ?_⟩⟩
    · rw [List.append_nil]
      exact (i2.cons a).nodup_iff.mpr nd
    · rw [List.append_nil] at hb ⊢
      exact (i2.cons a).mem_iff.mp hb
  · rename_i xs
    cases h
    obtain ⟨a, vs, P', rfl, hs, rfl, hr⟩ := rc
    obtain ⟨rfl, rfl⟩ := ry
    exact ⟨a, rfl, List.mem_cons_self, ⟨vs, hs⟩, fun Q q => ⟨_, fun X _ => mt_clear, a, vs, rfl, rfl, hs, q _ _ [a] [] But.upd ⟨a, [], [], rfl, upd_same, rfl, rfl, rfl⟩ ⟨rfl, rfl⟩ (by simp) fun b hb => by simp at hb ⊢; exact .inl hb⟩⟩
  · rename_i xs o zs
    obtain ⟨hz, e⟩ := opt_if h
    cases e
    obtain ⟨a, vs, P', rfl, hs, rfl, hr⟩ := rc
    obtain ⟨v, rs, P1, P2, rfl, rfl, g1, g2⟩ := ry
    obtain ⟨e1, e2⟩ := g2
    subst e1 e2
    rw [List.append_nil] at nd hA
    have hst : ∀ o, H a = some o → ¬ Still o := fun o e => by rw [hs] at e; cases e; exact id
    have hAa := hA a (by simp)
    have hg : ∃ b us Pz, v = .ref b ∧ H b = some (.lst us) ∧ Rps K H A zs us Pz ∧ (∀ c, c ∈ Pz → c ∈ P1) ∧ (P1.Nodup → Pz.Nodup) := by
      cases o with
      | true =>
        obtain ⟨b, us, Pz, e1, e2, e3, e4⟩ := g1
        subst e3
        exact ⟨b, us, Pz, e1, e2, e4, fun c hc => List.mem_cons_of_mem _ hc, fun n => (List.nodup_cons.mp n).2⟩
      | false =>
        obtain ⟨b, us, e1, e2, _, e3, e4⟩ := g1
        subst e3
        exact ⟨b, us, [], e1, e2, e4, fun c hc => hc, fun n => n⟩
    obtain ⟨b, us, Pz, rfl, hb, rz, sub, ndz⟩ := hg
    rw [List.cons_append, List.nodup_cons, List.nodup_append] at nd
    obtain ⟨n1, n2, n3, n4⟩ := nd
    refine ⟨a, rfl, List.mem_cons_self, ⟨vs, hs⟩, fun Q q => ⟨_, fun X _ => mt_extend, a, b, vs, us, rfl, rfl, hs, hb, by rw [hr.length, rz.length]; exact hz, q _ _ (a :: (P' ++ Pz)) [] But.upd ⟨a, _, _, rfl, upd_same, rfl, Rps.append (hr.but But.upd (fun z => n1 (List.mem_append_left _ z)) hAa hst) (rz.but But.upd (fun z => n1 (List.mem_append_right _ (sub _ z))) hAa hst)⟩ ⟨rfl, rfl⟩ ?_ fun c hc => ?_⟩⟩
    · rw [List.append_nil, List.nodup_cons, List.nodup_append]
      exact ⟨fun z => n1 ((List.mem_append.mp z).elim (fun z => List.mem_append_left _ z) fun z => List.mem_append_right _ (sub _ z)), n2, ndz n3, fun x hx y hy => n4 x hx y (sub y hy)⟩
    · rw [List.append_nil] at hc ⊢
      rcases List.mem_cons.mp hc with rfl | hc
      · exact List.mem_cons_self
      · exact List.mem_cons_of_mem _ ((List.mem_append.mp hc).elim (fun z => List.mem_append_left _ z) fun z => List.mem_append_right _ (sub _ z))
  · rename_i xs
    obtain ⟨y, hy, e⟩ := Option.map_eq_some_iff.mp h
    cases e
    obtain ⟨a, vs, P', rfl, hs, rfl, hr⟩ := rc
    obtain ⟨rfl, rfl⟩ := ry
    rw [List.append_nil] at nd hA
    have hst : ∀ o, H a = some o → ¬ Still o := fun o e => by rw [hs] at e; cases e; exact id
    have hAa := hA a (by simp)
    have n1 := (List.nodup_cons.mp nd).1
    have n2 := (List.nodup_cons.mp nd).2
    have hne : xs ≠ [] := by rintro rfl; simp at hy
    have hx : xs = xs.dropLast ++ [r] := by
      have := List.dropLast_concat_getLast hne
      rw [List.getLast_eq_getElem] at this
      rw [List.getElem?_eq_getElem (by have := List.length_pos_iff.mpr hne; omega)] at hy
      rw [Option.some.inj hy] at this
      exact this.symm
    rw [hx] at hr
    obtain ⟨us1, ws, P1, P2, e1, e2, g1, g2⟩ := hr.split
    obtain ⟨v, rs, Q1, Q2, e3, e4, g3, g4⟩ := g2
    obtain ⟨e5, e6⟩ := g4
    subst e5 e6 e3 e1
    rw [List.append_nil] at e4
    subst e4 e2
    refine ⟨a, rfl, List.mem_cons_self, ⟨_, hs⟩, fun Q q => ⟨_, fun X _ => mt_pop, a, us1 ++ [v], v, rfl, rfl, hs, by simp, q v _ (a :: P1) P2 But.upd ⟨a, us1, P1, rfl, ?_, rfl, g1.but But.upd (fun z => n1 (List.mem_append_left _ z)) hAa hst⟩ (g3.but But.upd (fun z => n1 (List.mem_append_right _ z)) hAa hst) (by simpa using nd) fun c hc => by simpa using hc⟩⟩
    rw [List.dropLast_concat]
    exact upd_same
  · rename_i xs i y
    obtain ⟨⟨hz, h0, h1⟩, e⟩ := opt_if h
    cases e
    obtain ⟨a, vs, P', rfl, hs, rfl, hr⟩ := rc
    obtain ⟨v0, r0, Q0, Q1, rfl, rfl, g0, g1⟩ := ry
    obtain ⟨rfl, rfl⟩ := g0
    obtain ⟨v, rs, P1, P2, rfl, rfl, g1, g2⟩ := g1
    obtain ⟨e1, e2⟩ := g2
    subst e1 e2
    have hst : ∀ o, H a = some o → ¬ Still o := fun o e => by rw [hs] at e; cases e; exact id
    have hAa := hA a (by simp)
    have hr0 := hr
    rw [← List.take_append_drop i.toNat xs] at hr
    obtain ⟨us1, ws, R1, R2, e1, e2, k1, k2⟩ := hr.split
    subst e2
    have lu : us1.length = min i.toNat xs.length := by rw [k1.length, List.length_take]
    have lv : vs.length = xs.length := hr0.length
    have l2 : us1.length + ws.length = xs.length := by rw [← lv, e1, List.length_append]
    have t1 : vs.take i.toNat = us1 := by
      rw [e1]
      by_cases hi : i.toNat ≤ xs.length
      · rw [List.take_append_of_le_length (by omega), List.take_of_length_le (by omega)]
      · have : ws = [] := List.eq_nil_of_length_eq_zero (by omega)
        rw [this, List.append_nil, List.take_of_length_le (by omega)]
    have t2 : vs.drop i.toNat = ws := by
      rw [e1]
      by_cases hi : i.toNat ≤ xs.length
      · rw [show i.toNat = us1.length by omega, List.drop_left]
      · have : ws = [] := List.eq_nil_of_length_eq_zero (by omega)
        rw [this, List.append_nil, List.drop_eq_nil_of_le (by omega)]
    have ha : a ∉ R1 ∧ a ∉ R2 ∧ a ∉ P1 := by
      have := (List.nodup_cons.mp nd).1
      simp at this
      exact ⟨this.1, this.2.1, this.2.2⟩
    have hz2 : vs.length < sizeLine := by rw [lv]; exact hz
    refine ⟨a, rfl, List.mem_cons_self, ⟨vs, hs⟩, fun Q q => ⟨_, fun X _ => mt_insert, a, vs, i, v, rfl, rfl, hs, hz2, h0, h1, ?_⟩⟩
    rw [t1, t2]
    refine q _ _ (a :: ((R1 ++ P1) ++ R2)) [] But.upd ⟨a, _, _, rfl, upd_same, rfl, Rps.append (Rps.append (k1.but But.upd ha.1 hAa hst) (Rps.one (g1.but But.upd ha.2.2 hAa hst))) (k2.but But.upd ha.2.1 hAa hst)⟩ ⟨rfl, rfl⟩ ?_ fun b hb => ?_
    · have pm : (a :: ((R1 ++ P1) ++ R2)).Perm (a :: ((R1 ++ R2) ++ P1)) := by
        refine List.Perm.cons a ?_
        rw [List.append_assoc, List.append_assoc]
        exact List.Perm.append_left R1 List.perm_append_comm
      rw [List.append_nil]
      exact pm.nodup_iff.mpr (by simpa using nd)
    · simp at hb ⊢
      rcases hb with rfl | hb | hb | hb
      · exact .inl rfl
      · exact .inr (.inl hb)
      · exact .inr (.inr (.inr hb))
      · exact .inr (.inr (.inl hb))
  · cases h
theorem findIdx_none {k : Key} : ∀ {ks : List Key} {vs : List V}, ks.findIdx? (· = k) = none → valV (ks.zip vs) k = none
  | [], vs, _ => by rw [List.zip_nil_left]; exact valV_nil
  | c :: ks, [], _ => by rw [List.zip_nil_right]; exact valV_nil
  | c :: ks, v :: vs, h => by
    rw [List.findIdx?_cons] at h
    by_cases hc : c = k
    · simp [hc] at h
    · simp [hc] at h
      rw [List.zip_cons_cons, valV_neg (p := (c, v)) hc]
      exact findIdx_none (by rw [List.findIdx?_eq_none_iff]; intro x hx; simpa using h x hx)
theorem putK_at {k : Key} {v : V} : ∀ {ks : List Key} {vs : List V} {j : Nat}, ks.Nodup → ks.findIdx? (· = k) = some j → ks.length = vs.length → putK (ks.zip vs) k v = ks.zip (vs.set j v) := by
  intro ks vs j hn hj hl
  have hany : ((ks.zip vs).any fun kv => decide (kv.1 = k)) = true := by
    have hlt := findIdx_lt hj
    have hv : vs[j]? = some (vs[j]'(by omega)) := List.getElem?_eq_getElem _
    have := valV_at hj hv
    rw [valV_any, this]
    rfl
  unfold putK
  rw [if_pos hany]
  clear hany
  induction ks generalizing vs j with
  | nil => simp at hj
  | cons c ks ih =>
    cases vs with
    | nil => cases hl
    | cons u vs =>
      have hn' := List.nodup_cons.mp hn
      rw [List.findIdx?_cons] at hj
      by_cases hc : c = k
      · simp [hc] at hj
        subst hj hc
        rw [List.set_cons_zero, List.zip_cons_cons, List.zip_cons_cons, List.map_cons, if_pos rfl]
        have : ∀ l : List (Key × V), (∀ p ∈ l, p.1 ≠ c) → l.map (fun kv => if kv.1 = c then (kv.1, v) else kv) = l := fun l h => by
          induction l with
          | nil => rfl
          | cons p l ih2 => rw [List.map_cons, if_neg (h p List.mem_cons_self), ih2 fun q hq => h q (List.mem_cons_of_mem _ hq)]
        rw [this _ fun p hp => fun e => hn'.1 (e ▸ (List.of_mem_zip (show (p.1, p.2) ∈ ks.zip vs from hp)).1)]
      · simp [hc] at hj
        obtain ⟨i, hi, rfl⟩ := hj
        rw [List.set_cons_succ, List.zip_cons_cons, List.zip_cons_cons, List.map_cons, if_neg hc, ih hn'.2 hi (by simpa using hl)]
end
def rSetK : V → V → V → Hp → (Hp → Prop) → Prop := fun o i v H Q => ∃ a H', o = .ref a ∧ DPut H a i v H' ∧ Q H'
theorem set_dict {X : Cx} (hu : X.A.units + 1 < cLine) : PSet X rSetK := by
  intro pins s σ H o i v ov iv u Q I ro ri rv h
  obtain ⟨a, H', rfl, g, q⟩ := h
  cases ro
  exact d_setItem hu I g ri rv fun s' I' => ⟨H', I', q⟩
def Ws (P : Program) (w : World) (K : PySem.W.Frag) (mg : Str → Option Value) (base : Heap) (L : Lx) : TSet := fun o i v H Q => ∃ t : TSet, (∀ X, InX P w K mg base L X → PSet X t) ∧ t o i v H Q
theorem Ws.set {X : Cx} (h : InX P w K mg base L X) : PSet X (Ws P w K mg base L) := fun pins s σ H o i v ov iv u Q I r1 r2 r3 ⟨_, p, q⟩ => p X h pins s σ H o i v ov iv u Q I r1 r2 r3 q
theorem setD_ok {H : Hp} {A : AP} {Pc Py : List Addr} {c k v c' : D} {u vk vv : V} (h : setD c k v = some c') (rc : Rp K H A c u Pc) (rk : Rp K H A k vk []) (rv : Rp K H A v vv Py) (nd : (Pc ++ Py).Nodup) (hA : ∀ b, b ∈ Pc ++ Py → ¬ A b) {Q : Hp → Prop}
    (q : ∀ a H' Pc', u = .ref a → a ∈ Pc → But a H H' → Rp K H' A c' u Pc' → Pc'.Nodup → (∀ b, b ∈ Pc' → b ∈ Pc ++ Py) → Q H') : Ws P w K mg base L u vk vv H Q := by
  unfold setD at h
  split at h
  · rename_i xs i
    obtain ⟨j, hj, e⟩ := Option.map_eq_some_iff.mp h
    subst e
    obtain ⟨a, vs, P', rfl, hs, rfl, hr⟩ := rc
    obtain ⟨rfl, _⟩ := rk
    have hst : ∀ o, H a = some o → ¬ Still o := fun o e => by rw [hs] at e; cases e; exact id
    have hAa := hA a (by simp)
    rw [List.cons_append, List.nodup_cons] at nd
    have hjl : j < xs.length := by
      unfold ixN at hj
      split at hj
      · split at hj
        · cases hj; omega
        · cases hj
      · split at hj
        · cases hj; omega
        · cases hj
    obtain ⟨u1, Q1, Qa, Qb, f1, f2, f3, f4⟩ := Rps.lens hr (List.getElem?_eq_getElem hjl)
    subst f2
    have r2 := f4 (upd H a (.lst (vs.set j vv))) A v vv Py (fun b o e z => But.upd.1 b o e fun y => by
        subst y
        rcases z with z | z | z
        · exact nd.1 (List.mem_append_left _ (by rcases List.mem_append.mp z with z | z <;> simp [z]))
        · exact hAa z
        · exact hst o e z) (fun _ _ _ z => z) (rv.but But.upd (fun z => nd.1 (List.mem_append_right _ z)) hAa hst)
    refine ⟨rSetL, fun X _ => set_list, a, vs, i, j, rfl, rfl, hs, by rw [hr.length]; exact hj, q a _ (a :: (Qa ++ Py ++ Qb)) rfl List.mem_cons_self But.upd ⟨a, _, _, rfl, upd_same, rfl, r2⟩ ?_ fun b hb => ?_⟩
    · have n2 := nd.2
      simp only [List.nodup_append, List.nodup_cons, List.mem_append] at n2 nd ⊢
      obtain ⟨⟨⟨a1, a2, a3⟩, a4, a5⟩, a6, a7⟩ := n2
      refine ⟨fun z => nd.1 ?_, ⟨a1, a6, fun x hx y hy => a7 x (.inl (.inl hx)) y hy⟩, a4, fun x hx y hy => ?_⟩
      · rcases z with (z | z) | z
        · exact .inl (.inl (.inl z))
        · exact .inr z
        · exact .inl (.inr z)
      · rcases hx with hx | hx
        · exact a5 x (.inl hx) y hy
        · exact fun e => a7 y (.inr hy) x hx e.symm
    · simp only [List.mem_cons, List.mem_append] at hb ⊢
      rcases hb with hb | (hb | hb) | hb
      · exact .inl (.inl hb)
      · exact .inl (.inr (.inl (.inl hb)))
      · exact .inr hb
      · exact .inl (.inr (.inr hb))
  · rename_i ks xs
    obtain ⟨kk, hk, h2⟩ := Option.bind_eq_some_iff.mp h
    obtain ⟨a, vs, P', rfl, hs, hl, rfl, hr⟩ := rc
    have ek := kV_keyD rk hk
    have hst : ∀ o, H a = some o → ¬ Still o := fun o e => by rw [hs] at e; cases e; exact id
    have hAa := hA a (by simp)
    rw [List.cons_append, List.nodup_cons] at nd
    obtain ⟨⟨hnk, hz⟩, e0⟩ := opt_if h2
    have hzl : (ks.zip vs).length < sizeLine := Nat.lt_of_le_of_lt (by rw [List.length_zip]; exact Nat.min_le_left _ _) hz
    cases hf : ks.findIdx? (· = kk) with
    | some j =>
      rw [hf] at e0
      subst e0
      have hjl : j < xs.length := by rw [← hr.length, ← hl]; exact findIdx_lt hf
      obtain ⟨u1, Q1, Qa, Qb, f1, f2, f3, f4⟩ := Rps.lens hr (List.getElem?_eq_getElem hjl)
      subst f2
      have r2 := f4 (upd H a (.dK (ks.zip (vs.set j vv)))) A v vv Py (fun b o e z => But.upd.1 b o e fun y => by
          subst y
          rcases z with z | z | z
          · exact nd.1 (List.mem_append_left _ (by rcases List.mem_append.mp z with z | z <;> simp [z]))
          · exact hAa z
          · exact hst o e z) (fun _ _ _ z => z) (rv.but But.upd (fun z => nd.1 (List.mem_append_right _ z)) hAa hst)
      refine ⟨rSetK, fun X hX => set_dict hX.u1, a, _, rfl, by rw [ek]; exact DPut.k hs hzl, q a _ (a :: (Qa ++ Py ++ Qb)) rfl List.mem_cons_self But.upd ⟨a, vs.set j vv, _, rfl, by rw [upd_same, putK_at hnk hf hl], by rw [List.length_set]; exact hl, rfl, by rw [putK_at hnk hf hl]; exact r2⟩ ?_ fun b hb => ?_⟩
      · have n2 := nd.2
        simp only [List.nodup_append, List.nodup_cons, List.mem_append] at n2 nd ⊢
        obtain ⟨⟨⟨a1, a2, a3⟩, a4, a5⟩, a6, a7⟩ := n2
        refine ⟨fun z => nd.1 ?_, ⟨a1, a6, fun x hx y hy => a7 x (.inl (.inl hx)) y hy⟩, a4, fun x hx y hy => ?_⟩
        · rcases z with (z | z) | z
          · exact .inl (.inl (.inl z))
          · exact .inr z
          · exact .inl (.inr z)
        · rcases hx with hx | hx
          · exact a5 x (.inl hx) y hy
          · exact fun e => a7 y (.inr hy) x hx e.symm
      · simp only [List.mem_cons, List.mem_append] at hb ⊢
        rcases hb with hb | (hb | hb) | hb
        · exact .inl (.inl hb)
        · exact .inl (.inr (.inl (.inl hb)))
        · exact .inr hb
        · exact .inl (.inr (.inr hb))
    | none =>
      rw [hf] at e0
      subst e0
      have ep : putK (ks.zip vs) kk vv = (ks ++ [kk]).zip (vs ++ [vv]) := by
        rw [putK_new vv (findIdx_none hf), List.zip_append hl]
        rfl
      refine ⟨rSetK, fun X hX => set_dict hX.u1, a, _, rfl, by rw [ek]; exact DPut.k hs hzl, q a _ (a :: (P' ++ Py)) rfl List.mem_cons_self But.upd ⟨a, vs ++ [vv], _, rfl, by rw [upd_same, ep], by simp [hl], rfl, ?_⟩ (List.nodup_cons.mpr nd) fun b hb => hb⟩
      exact Rps.append (hr.but But.upd (fun z => nd.1 (List.mem_append_left _ z)) hAa hst) (Rps.one (rv.but But.upd (fun z => nd.1 (List.mem_append_right _ z)) hAa hst))
  · cases h
end
end Mn

/-! Mn Q: the own node at the end of a path; a method that changes it. -/
namespace Mn
open PySem L2
theorem getP_append : ∀ {ks js : List D} {d c : D}, getP d (ks ++ js) = some c → ∃ m, getP d ks = some m ∧ getP m js = some c
  | [], js, d, c, h => ⟨d, by cases d <;> rfl, h⟩
  | k :: ks, js, d, c, h => by
    cases d with
    | lst o xs =>
      cases o with
      | false => cases k <;> simp [getP] at h
      | true =>
        cases k with
        | int i =>
          obtain ⟨c1, g1, g2⟩ := Option.bind_eq_some_iff.mp (show (atI xs i).bind (fun c => getP c (ks ++ js)) = some c by simpa [getP] using h)
          obtain ⟨m, h1, h2⟩ := getP_append g2
          exact ⟨m, by simp [getP, g1, h1], h2⟩
        | _ => simp [getP] at h
    | dk o cs xs =>
      cases o with
      | false => simp [getP] at h
      | true =>
        obtain ⟨kk, g0, g1⟩ := Option.bind_eq_some_iff.mp (show (keyD k).bind (fun c => (getK c cs xs).bind fun d => getP d (ks ++ js)) = some c by simpa [getP] using h)
        obtain ⟨c1, g2, g3⟩ := Option.bind_eq_some_iff.mp g1
        obtain ⟨m, h1, h2⟩ := getP_append g3
        exact ⟨m, by simp [getP, g0, g2, h1], h2⟩
    | _ => simp [getP] at h
theorem At.cut {H : Hp} {P : List Addr} : ∀ {ks js : List D} {v u : V}, At H P v (ks ++ js) u → ∃ z, At H P v ks z ∧ At H P z js u
  | [], js, v, u, h => ⟨v, .nil, h⟩
  | k :: ks, js, v, u, h => by
    cases h with
    | lst ha e1 e2 g =>
      obtain ⟨z, h1, h2⟩ := At.cut g
      exact ⟨z, .lst ha e1 e2 h1, h2⟩
    | dk ha e1 e2 e3 g =>
      obtain ⟨z, h1, h2⟩ := At.cut g
      exact ⟨z, .dk ha e1 e2 e3 h1, h2⟩
theorem getS_same {W : List Nat} {ρ ρ' : Env} {i : Nat} (h : SameS W ρ ρ') (hi : i ∉ W) : getS ρ' i = getS ρ i := by
  unfold getS
  rw [h.2 i hi]
mutual
theorem Rp.nod {K : PySem.W.Frag} {H : Hp} {A : AP} : ∀ {d : D} {v : V} {P : List Addr}, Rp K H A d v P → Mn.nod d = true → P = []
  | .non, v, P, h, _ => h.2
  | .bl _, v, P, h, _ => h.2
  | .int _, v, P, h, _ => h.2
  | .str _, v, P, h, _ => h.2.1
  | .tup xs, v, P, ⟨a, vs, e, hs, hr⟩, n => Rps.nod hr n
  | .lst true xs, v, P, _, n => by simp [Mn.nod] at n
  | .lst false xs, v, P, ⟨a, vs, e, hs, hA, ep, hr⟩, n => ep
  | .scr xs, v, P, ⟨a, vs, e, hs, ep, hr⟩, n => ep
  | .dk true _ _, v, P, _, n => by simp [Mn.nod] at n
  | .dk false ks xs, v, P, ⟨a, vs, e, hs, hl, hA, ep, hr⟩, n => ep
  | .ins true _ _ _, v, P, _, n => by simp [Mn.nod] at n
  | .ins false c ks xs, v, P, ⟨a, dx, vs, e, hs, hl, hA, ep, hr⟩, n => ep
theorem Rps.nod {K : PySem.W.Frag} {H : Hp} {A : AP} : ∀ {ds : List D} {vs : List V} {P : List Addr}, Rps K H A ds vs P → Mn.nods ds = true → P = []
  | [], vs, P, h, _ => h.2
  | x :: xs, vs, P, ⟨v, r, P1, P2, e, ep, h1, h2⟩, n => by
    have n' := (Bool.and_eq_true _ _).mp n
    rw [ep, Rp.nod h1 n'.1, Rps.nod h2 n'.2]; rfl
end
theorem EnvR.nod {K : PySem.W.Frag} {F : AP} {ρ : Env} {own : Own} {σ : L2.St} {H : Hp} (E : EnvR K F ρ own σ H) {j : Nat} (h : nodS ρ j = true) : own j = [] := by
  unfold nodS at h
  cases e : getS ρ j with
  | none =>
    refine E.non j fun d z => ?_
    unfold getS at e
    rw [z] at e
    cases e
  | some d =>
    rw [e] at h
    obtain ⟨v, _, r⟩ := E.rep j d (getS_some e)
    exact r.nod h
section
variable {K : PySem.W.Frag} {F : AP} {ρ : Env} {own own1 : Own} {σ : L2.St} {H H1 H' : Hp} {W W1 : List Nat} {P Pn Pr Py : List Addr} {i : Nat} {a : Addr}
theorem EnvR.put {d d' : D} {v : V} (E : EnvR K (FP F Py) ρ own1 σ H1) (hg : getS ρ i = some d) (ha : a ∈ own1 i) (b : But a H1 H') (hs : σ[i]? = some (some v)) (r : Rp K H' (AE (FP F Py) own1) d' v Pn)
    (hPn : ∀ c, c ∈ Pn ++ Pr → c ∈ own1 i ∨ c ∈ Py) (nd : (Pn ++ Pr).Nodup) (hF : ∀ c, c ∈ Py → ¬ F c) (tPr : ∀ c, c ∈ Pr → H' c ≠ none) : EnvR K (FP F Pr) (ρ.set i (some d')) (setO own1 i Pn) σ H' := by
  have hi : i < ρ.length := (List.getElem?_eq_some_iff.mp (getS_some hg)).1
  have nd' := List.nodup_append.mp nd
  have still : ∀ o, H1 a = some o → ¬ Still o := fun o e => by
    obtain ⟨o', e', n⟩ := E.own_there ha
    rw [e] at e'; cases e'
    exact n
  have A1 : ∀ c, AE (FP F Py) own1 c → AE (FP F Pr) (setO own1 i Pn) c := fun c z => by
    refine ⟨fun y => y.elim (fun y => z.1 (.inl y)) fun y => (hPn c (List.mem_append_right _ y)).elim (z.2 i) fun y => z.1 (.inr y), fun j hj => ?_⟩
    rcases setO_mem.mp hj with ⟨_, hj⟩ | ⟨_, hj⟩
    · exact (hPn c (List.mem_append_left _ hj)).elim (z.2 i) fun y => z.1 (.inr y)
    · exact z.2 j hj
  have nF : ∀ c, c ∈ Pn ++ Pr → ¬ F c := fun c hc y => (hPn c hc).elim (fun z => E.fr i c z (.inl y)) fun z => hF c z y
  refine ⟨by rw [List.length_set]; exact E.len, fun j dd e => ?_, fun j hn => ?_, fun j => ?_, fun x y c hxy hx hy => ?_, fun j c hc y => ?_, fun c y => ?_⟩
  · by_cases hj : j = i
    · subst hj
      rw [List.getElem?_set_self hi] at e
      cases e
      exact ⟨v, hs, by rw [setO_same]; exact r.mono (fun _ _ e _ => e) fun c _ _ => A1 c⟩
    · rw [List.getElem?_set_ne (Ne.symm hj)] at e
      obtain ⟨v', e1, r1⟩ := E.rep j dd e
      refine ⟨v', e1, ?_⟩
      rw [setO_ne hj]
      exact (r1.but b (E.dj i j a (Ne.symm hj) ha) (fun z => z.2 i ha) still).mono (fun _ _ e _ => e) fun c _ _ => A1 c
  · by_cases hj : j = i
    · subst hj
      exact absurd (List.getElem?_set_self hi) (hn d')
    · rw [setO_ne hj]
      exact E.non j fun dd => by rw [← List.getElem?_set_ne (Ne.symm hj)]; exact hn dd
  · by_cases hj : j = i
    · rw [hj, setO_same]; exact nd'.1
    · rw [setO_ne hj]; exact E.nd j
  · rcases setO_mem.mp hx with ⟨e1, z1⟩ | ⟨e1, z1⟩
    · rcases setO_mem.mp hy with ⟨e2, z2⟩ | ⟨e2, z2⟩
      · exact hxy (e1.trans e2.symm)
      · exact (hPn c (List.mem_append_left _ z1)).elim (fun z => E.dj i y c (fun e => e2 e.symm) z z2) fun z => E.fr y c z2 (.inr z)
    · rcases setO_mem.mp hy with ⟨e2, z2⟩ | ⟨e2, z2⟩
      · exact (hPn c (List.mem_append_left _ z2)).elim (fun z => E.dj i x c (fun e => e1 e.symm) z z1) fun z => E.fr x c z1 (.inr z)
      · exact E.dj x y c hxy z1 z2
  · rcases setO_mem.mp hc with ⟨_, z⟩ | ⟨e1, z⟩
    · exact y.elim (nF c (List.mem_append_left _ z)) fun y => nd'.2.2 c z c y rfl
    · exact y.elim (fun y => E.fr j c z (.inl y)) fun y => (hPn c (List.mem_append_right _ y)).elim (fun q => E.dj i j c (fun e => e1 e.symm) q z) fun q => E.fr j c z (.inr q)
  · exact y.elim (fun y => b.2 c (E.fa c (.inl y))) (tPr c)
theorem Post.put (p : Post W1 own H Py own1 H1) (ha : a ∈ own1 i) (b : But a H1 H') (hPn : ∀ c, c ∈ Pn ++ Pr → c ∈ own1 i ∨ c ∈ Py) (hi : i ∈ W) (hW : ∀ j, j ∈ W1 → j ∈ W) : Post W own H Pr (setO own1 i Pn) H' := by
  have src : ∀ c, c ∈ Pn ++ Pr → H c = none ∨ ∃ j, j ∈ W ∧ c ∈ own j := fun c hc => by
    rcases hPn c hc with z | z
    · rcases p.frO i c z with z | ⟨_, z | ⟨j, hj, z⟩⟩
      · exact .inr ⟨i, hi, z⟩
      · exact .inl z
      · exact .inr ⟨j, hW j hj, z⟩
    · exact (p.frP c z).imp id fun ⟨j, hj, z⟩ => ⟨j, hW j hj, z⟩
  refine ⟨fun c o e n => b.1 c o (p.keep c o e fun j hj => n j (hW j hj)) fun z => ?_, fun c e => b.2 c (p.there c e), fun c hc => src c (List.mem_append_right _ hc), fun j c hc => ?_⟩
  · subst z
    rcases p.frO i c ha with z | ⟨_, z | ⟨j, hj, z⟩⟩
    · exact n i hi z
    · rw [e] at z; cases z
    · exact n j (hW j hj) z
  · rcases setO_mem.mp hc with ⟨e1, z⟩ | ⟨e1, z⟩
    · exact .inr ⟨by rw [e1]; exact hi, src c (List.mem_append_left _ z)⟩
    · exact (p.frO j c z).imp id fun ⟨h1, z⟩ => ⟨hW j h1, z.imp id fun ⟨q, hq, z⟩ => ⟨q, hW q hq, z⟩⟩
end
section
variable (P : Program) (w : World) (K : PySem.W.Frag) (mg : Str → Option Value) (base : Heap) (cf : Nat → List D → Option (D × List D))
def PthOk (L : Lx) (e : Expr) (p : Pth) : Prop := ∀ (F : AP) (ρ : Env) (own : Own) (σ : L2.St) (H : Hp), EnvR K F ρ own σ H → ∀ (ks : List D) (ρ' : Env), denP cf p ρ = .ok ks ρ' → ∀ d c, getS ρ p.slot = some d → getP d ks = some c → ∀ Q : VK,
  (∀ own' H' vs v, EnvR K F ρ' own' σ H' → Post p.W own H [] own' H' → σ[p.slot]? = some (some vs) → At H' (own' p.slot) vs ks v → Q v H') → We P w K mg base L e σ H Q
end
section
variable {P : Program} {w : World} {K : PySem.W.Frag} {mg : Str → Option Value} {base : Heap} {cf : Nat → List D → Option (D × List D)} {L : Lx}
theorem pok_sl {i : Nat} {x : Str} {pos : Pos} (hN : L.N[i]? = some x) (hv : Vis L.sc x) (hd : (x == ("__debug__" : Str)) = false) (hcd : (x == ("__classdict__" : Str)) = false) : PthOk P w K mg base cf L (.Name x pos) (.sl i) := by
  intro F ρ own σ H E ks ρ' h d c hg hp Q q
  rw [denP] at h
  cases h
  obtain ⟨v, e1, r⟩ := E.rep i d (getS_some hg)
  exact ⟨tVar i, fun X hX => pe_var (by rw [hX.N]; exact hN) (by rw [hX.sc]; exact hv) hd hcd, v, e1, q own H v v E Post.refl e1 .nil⟩
/-- what stands at the end of own nodes still stands there -/
theorem At.over {F : AP} {ρ : Env} {own own1 : Own} {σ : L2.St} {H H1 : Hp} {W : List Nat} {Py : List Addr} {i : Nat} {vs v : V} {ks : List D} (h : At H (own i) vs ks v) (E : EnvR K F ρ own σ H) (p : Post W own H Py own1 H1) (hi : i ∉ W) : At H1 (own i) vs ks v :=
  h.mono fun b o hb e => p.keep b o e fun j hj z => E.dj i j b (fun y => hi (y ▸ hj)) hb z
theorem pok_ix {a b : Expr} {p : Pth} {ib : E} {pos : Pos} (hp : PthOk P w K mg base cf L a p) (hb : EOk P w K mg base cf L b ib) (h1 : p.slot ∉ p.W) (h2 : p.slot ∉ ib.W) (hs : ∀ l u st p, b ≠ .Slice l u st p) : PthOk P w K mg base cf L (.Subscript a b pos) (.ix p ib) := by
  intro F ρ own σ H E ks ρ' h d c hg hgp Q q
  rw [denP] at h
  obtain ⟨ks1, ρ1, e1, h⟩ := R.bind_ok h
  obtain ⟨k, ρ2, e2, h⟩ := R.bind_ok h
  obtain ⟨hf, h⟩ := R.grd_ok h
  cases h
  obtain ⟨m, g1, g2⟩ := getP_append hgp
  have sm : getS ρ' p.slot = some d := by rw [getS_same (den_same e2) h2, getS_same (denP_same e1) h1]; exact hg
  -- both readings run the same way
  have walk : ∀ (Y : V → V → Hp → Prop), (∀ v1 v2 own2 H2 vs u Pm, EnvR K F ρ' own2 σ H2 → Post (p.W ++ ib.W) own H [] own2 H2 → σ[p.slot]? = some (some vs) → At H2 (own2 p.slot) vs (ks1 ++ [k]) u → At H2 (own2 p.slot) v1 [k] u → Rp K H2 (fun _ => True) k v2 [] → Rp K H2 (AE F own2) m v1 Pm → Y v1 v2 H2) →
      We P w K mg base L a σ H fun v1 H1 => We P w K mg base L b σ H1 fun v2 H2 => Y v1 v2 H2 := fun Y y =>
    hp F ρ own σ H E ks1 ρ1 e1 d m hg g1 _ fun own1 H1 vs v1 E1 p1 s1 a1 => hb F ρ1 own1 σ H1 E1 k ρ' e2 _ fun v2 P2 own2 H2 r2 => by
      obtain ⟨E2, p2⟩ := r2.drop
      obtain ⟨vs', s2, rr⟩ := E2.rep p.slot d (getS_some sm)
      rw [s1] at s2
      cases s2
      obtain ⟨u, _, _, _, a2, _⟩ := rr.lens hgp
      obtain ⟨um, Pm, _, _, am, _, rm, _⟩ := rr.lens g1
      obtain ⟨z, a3, a4⟩ := a2.cut
      have e3 : z = v1 := a3.det (a1.over E1 r2.post h2)
      have e4 : um = v1 := am.det (a1.over E1 r2.post h2)
      subst e3 e4
      obtain ⟨_, fl⟩ := r2.rep.fl (H' := H2) (A' := fun _ => True) hf
      exact y _ v2 own2 H2 vs u Pm E2 (p1.trans p2) s1 a2 a4 fl rm
  cases hm : m with
  | dk o cs xs =>
    refine ⟨tDGet (We P w K mg base L a) (We P w K mg base L b), fun X hX => pe_dget hX.u1 (We.pe hX) (We.pe hX) (fun _ _ => plainIx_of hs _ _), ?_⟩
    refine walk _ fun v1 v2 own2 H2 vs u Pm E2 p2 s1 a2 a4 fl rm => ?_
    subst hm
    have hk : ∃ aa kvs, v1 = .ref aa ∧ H2 aa = some (.dK kvs) := by
      cases o with
      | true => obtain ⟨aa, vv, P', e, hs, _⟩ := rm; exact ⟨aa, _, e, hs⟩
      | false => obtain ⟨aa, vv, e, hs, _⟩ := rm; exact ⟨aa, _, e, hs⟩
    obtain ⟨aa, kvs, rfl, hs2⟩ := hk
    cases a4 with
    | lst ha f1 f2 g => rw [hs2] at f1; cases f1
    | dk ha f1 f2 f3 g =>
      cases g
      exact ⟨aa, u, rfl, .inl ⟨_, _, .inl f1, kV_keyD fl f2, f3.symm⟩, q own2 H2 vs u E2 p2 s1 a2⟩
  | lst o xs =>
    refine ⟨tOp (Wx P w K mg base L) (We P w K mg base L a) (We P w K mg base L b), fun X hX => pe_ix (Wx.ix hX) (We.pe hX) (We.pe hX) (plainIx_of hs), ?_⟩
    refine walk _ fun v1 v2 own2 H2 vs u Pm E2 p2 s1 a2 a4 fl rm => ?_
    subst hm
    have hk : ∃ aa kvs, v1 = .ref aa ∧ H2 aa = some (.lst kvs) := by
      cases o with
      | true => obtain ⟨aa, vv, P', e, hs, _⟩ := rm; exact ⟨aa, _, e, hs⟩
      | false => obtain ⟨aa, vv, e, hs, _⟩ := rm; exact ⟨aa, _, e, hs⟩
    obtain ⟨aa, kvs, rfl, hs2⟩ := hk
    cases a4 with
    | dk ha f1 f2 f3 g => rw [hs2] at f1; cases f1
    | lst ha f1 f2 g =>
      cases g
      obtain ⟨rfl, _⟩ := fl
      exact ⟨rIxL K, fun X hX => by have e := hX.K; subst e; exact ix_list, aa, _, _, u, rfl, rfl, SqL.of f1, f2, q own2 H2 vs u E2 p2 s1 a2⟩
  | _ => subst hm; simp [getP] at g2
/-! a method that changes a list -/
theorem pa_list : PlainAttrs "list" := F.plainAttrs_list
theorem mu_slot (m : MU) (h : m ≠ .update) : Slot "list" (Str.ofString m.name) m.id ∧ typeOf (.builtin m.id) = pure (.type "method_descriptor") := by
  cases m <;> first | exact absurd rfl h | skip
  · exact ⟨F.slot_list_append, F.type_list_append⟩
  · exact ⟨F.slot_list_extend, F.type_list_extend⟩
  · exact ⟨F.slot_list_reverse, F.type_list_reverse⟩
  · exact ⟨F.slot_list_insert, F.type_list_insert⟩
  · exact ⟨F.slot_list_pop, F.type_list_pop⟩
  · exact ⟨F.slot_list_pop, F.type_list_pop⟩
  · exact ⟨F.slot_list_clear, F.type_list_clear⟩
  · exact ⟨F.slot_list_remove, F.type_list_remove⟩
def EsRd (K : PySem.W.Frag) (cf : Nat → List D → Option (D × List D)) (rd : TA) (ies : Es) : Prop := ∀ (F : AP) (ρ : Env) (own : Own) (σ : L2.St) (H : Hp), EnvR K F ρ own σ H → ∀ (ds : List D) (ρ' : Env), denEs cf ies ρ = .ok ds ρ' → ∀ Q : List V → Hp → Prop,
  (∀ vs P' own' H', ResI K F ies own H ρ' σ ds vs P' own' H' → Q vs H') → rd σ H Q
theorem muD_list {m : MU} {c r c' : D} {ys : List D} (h : muD m c ys = some (r, c')) : ∃ xs, c = .lst true xs := by
  unfold muD at h
  split at h <;> first | exact ⟨_, rfl⟩ | cases h
theorem mu_core {m : MU} {o : Expr} {p : Pth} {ies : Es} {rd : TA} (hp : PthOk P w K mg base cf L o p) (he : EsRd K cf rd ies) (hi : ies.ios = []) (h1 : p.slot ∉ p.W) (h2 : p.slot ∉ ies.W) {F : AP} {ρ ρ' : Env} {own : Own} {σ : L2.St} {H : Hp} (E : EnvR K F ρ own σ H) {d : D}
    (h : den cf (.mu m p ies) ρ = .ok d ρ') {Q : VK} (q : ∀ v P' own' H', Res K F (Mn.E.mu m p ies).U (Mn.E.mu m p ies).W own H ρ' σ d v P' own' H' → Q v H') :
    We P w K mg base L o σ H fun x H1 => tyV K "list" x H1 ∧ rd σ H1 fun xs H2 => Wm P w K mg base L m.id x xs H2 Q := by
  rw [den] at h
  obtain ⟨ks, ρ0, e1, h⟩ := R.bind_ok h
  obtain ⟨ys, ρ1, e2, h⟩ := R.bind_ok h
  obtain ⟨hg, h⟩ := R.grd_ok h
  cases hs : getS ρ1 p.slot with
  | none => rw [hs] at h; cases h
  | some d0 =>
    rw [hs] at h
    cases hb : (getP d0 ks).bind fun c => muD m c ys with
    | none => simp only [hb] at h; cases h
    | some rc =>
      obtain ⟨r, c'⟩ := rc
      simp only [hb] at h
      cases hput : putP d0 ks c' with
      | none => rw [hput] at h; cases h
      | some d' =>
        rw [hput] at h
        cases h
        obtain ⟨c, hgp, hmu⟩ := Option.bind_eq_some_iff.mp hb
        have s0 : getS ρ0 p.slot = some d0 := by rw [← getS_same (denEs_same e2) h2]; exact hs
        have sA : getS ρ p.slot = some d0 := by rw [← getS_same (denP_same e1) h1]; exact s0
        obtain ⟨cs, rfl⟩ := muD_list hmu
        refine hp F ρ own σ H E ks ρ0 e1 d0 _ sA hgp _ fun own0 H0 vs v E0 p0 sv a0 => ⟨?_, ?_⟩
        · obtain ⟨v', sv', rr⟩ := E0.rep _ d0 (getS_some s0)
          rw [sv] at sv'; cases sv'
          obtain ⟨u, Pc, _, _, a1, _, rc, _⟩ := rr.lens hgp
          have := a1.det a0
          subst this
          obtain ⟨aa, vv, P', rfl, hs', _⟩ := rc
          exact .inl ⟨rfl, vv, SqL.of hs'⟩
        · refine he F ρ0 own0 σ H0 E0 ys ρ1 e2 _ fun us Py own1 H1 r1 => ?_
          obtain ⟨v', sv', rr⟩ := r1.env.rep _ d0 (getS_some hs)
          rw [sv] at sv'; cases sv'
          obtain ⟨u, Pc, Pa, Pb, a1, ep, rc, back⟩ := rr.lens hgp
          have := a1.det (a0.over E0 r1.post h2)
          subst this
          have hF : ∀ c, c ∈ Py → ¬ F c := r1.F_of E0
          have ry : Rps K H1 (AE (FP F Py) own1) ys us Py := by
            have rz := r1.rep.rps hi
            rcases (Bool.or_eq_true _ _).mp hg with hn | hn
            · exact rz.nfm hn
            · refine rz.mono (fun _ _ e _ => e) fun a _ _ z => ⟨fun y => y.elim z.1 z.2.1, fun j => ?_⟩
              by_cases hj : j ∈ ies.U
              · rw [r1.env.nod (List.all_eq_true.mp hn j hj)]; exact List.not_mem_nil
              · exact z.2.2 j hj
          have inI : ∀ b, b ∈ Pc → b ∈ own1 p.slot := fun b hb => by rw [ep]; exact List.mem_append_left _ (List.mem_append_right _ hb)
          have nd1 := r1.env.nd p.slot
          rw [ep] at nd1
          have nd2 := List.nodup_append.mp nd1
          have nd3 := List.nodup_append.mp nd2.1
          have cross : ∀ b, b ∈ own1 p.slot → b ∉ Py := fun b hb z => r1.env.fr p.slot b hb (.inr z)
          obtain ⟨a, rfl, ha, ⟨xs0, hxs⟩, go⟩ := muD_ok (P := P) (w := w) (K := K) (mg := mg) (base := base) (L := L) hmu rc ry (List.nodup_append.mpr ⟨nd3.2.1, r1.nd, fun x hx y hy e => cross x (inI x hx) (e ▸ hy)⟩)
            (fun b hb z => (List.mem_append.mp hb).elim (fun y => z.2 p.slot (inI b y)) fun y => z.1 (.inr y))
          refine go Q fun vr H' Pc' Pr but rc' rr' nd' sub => ?_
          have own_a := inI a ha
          have still : ∀ o, H1 a = some o → ¬ Still o := fun o e => by rw [hxs] at e; cases e; exact id
          have nA : ¬ AE (FP F Py) own1 a := fun z => z.2 p.slot own_a
          have rd' := back H' (AE (FP F Py) own1) c' d' Pc' hput (fun b o e z => but.1 b o e fun y => by
              subst y
              rcases z with z | z | z
              · rcases List.mem_append.mp z with z | z
                · exact nd3.2.2 b z b ha rfl
                · exact nd2.2.2 b (List.mem_append_right _ ha) b z rfl
              · exact nA z
              · exact still o e z) (fun _ _ _ z => z) rc'
          have sub' : ∀ c, c ∈ (Pa ++ Pc' ++ Pb) ++ Pr → c ∈ own1 p.slot ∨ c ∈ Py := fun c hc => by
            have : c ∈ Pa ++ Pb ∨ c ∈ Pc' ++ Pr := by
              simp only [List.mem_append] at hc ⊢
              rcases hc with ((hc | hc) | hc) | hc
              · exact .inl (.inl hc)
              · exact .inr (.inl hc)
              · exact .inl (.inr hc)
              · exact .inr (.inr hc)
            rcases this with z | z
            · left
              rw [ep]
              rcases List.mem_append.mp z with z | z
              · exact List.mem_append_left _ (List.mem_append_left _ z)
              · exact List.mem_append_right _ z
            · exact (List.mem_append.mp (sub c z)).imp (inI c) id
          have sideNot : ∀ c, c ∈ Pa ++ Pb → c ∉ Pc' ++ Pr := fun c hc z => by
            have hO : c ∈ own1 p.slot := by
              rw [ep]
              rcases List.mem_append.mp hc with hc | hc
              · exact List.mem_append_left _ (List.mem_append_left _ hc)
              · exact List.mem_append_right _ hc
            rcases List.mem_append.mp (sub c z) with y | y
            · rcases List.mem_append.mp hc with hc | hc
              · exact nd3.2.2 c hc c y rfl
              · exact nd2.2.2 c (List.mem_append_right _ y) c hc rfl
            · exact cross c hO y
          have ndn : ((Pa ++ Pc' ++ Pb) ++ Pr).Nodup := by
            have n' := List.nodup_append.mp nd'
            simp only [List.nodup_append, List.mem_append] at nd2 nd3 ⊢
            refine ⟨⟨⟨nd3.1, n'.1, fun x hx y hy e => sideNot x (List.mem_append_left _ hx) (List.mem_append_left _ (e ▸ hy))⟩, nd2.2.1, fun x hx y hy e => ?_⟩, n'.2.1, fun x hx y hy e => ?_⟩
            · rcases hx with hx | hx
              · exact nd2.2.2 x (.inl hx) y hy e
              · exact sideNot y (List.mem_append_right _ hy) (List.mem_append_left _ (e ▸ hx))
            · rcases hx with (hx | hx) | hx
              · exact sideNot x (List.mem_append_left _ hx) (List.mem_append_right _ (e ▸ hy))
              · exact n'.2.2 x hx y hy e
              · exact sideNot x (List.mem_append_right _ hx) (List.mem_append_right _ (e ▸ hy))
          have tPr : ∀ c, c ∈ Pr → H' c ≠ none := fun c hc => by
            obtain ⟨o, e, _⟩ := rr'.there c hc
            rw [e]; simp
          have Ef := r1.env.put hs own_a but sv rd' sub' ndn hF tPr
          have pf := Post.put (W := p.W ++ (p.slot :: ies.W)) (p0.trans r1.post) own_a but sub' (List.mem_append_right _ List.mem_cons_self) (fun j hj => (List.mem_append.mp hj).elim (fun z => List.mem_append_left _ z) fun z => List.mem_append_right _ (List.mem_cons_of_mem _ z))
          refine q vr Pr _ H' ⟨Ef, rr'.mono (fun _ _ e _ => e) fun c o e z => ⟨fun y => z.1 (.inl y), fun y => ?_, fun j _ hj => ?_⟩, (List.nodup_append.mp nd').2.1, pf⟩
          · exact (sub' c (List.mem_append_right _ y)).elim (z.2 p.slot) fun y => z.1 (.inr y)
          · rcases setO_mem.mp hj with ⟨_, y⟩ | ⟨_, y⟩
            · exact (sub' c (List.mem_append_left _ y)).elim (z.2 p.slot) fun y => z.1 (.inr y)
            · exact z.2 j y
theorem ok_mu0 {m : MU} {o : Expr} {p : Pth} {apos cpos : Pos} (hm : m ≠ .update) (hp : PthOk P w K mg base cf L o p) (h1 : p.slot ∉ p.W) (hb : ∀ env, attributeBase o (Str.ofString m.name) env (eval o env) = eval o env) (hline : (apos.endLine == cpos.line) = true) :
    EOk P w K mg base cf L (.Call (.Attribute o (Str.ofString m.name) apos) [] [] cpos) (.mu m p .nil) := by
  intro F ρ own σ H E d ρ' h Q q
  refine ⟨tBM0 K "list" (Wm P w K mg base L m.id) (We P w K mg base L o), fun X hX => ?_, ?_⟩
  · have e := hX.K
    subst e
    exact pe_bm0 pa_list (mu_slot m hm).1 (mu_slot m hm).2 (Wm.mt hX) (We.pe hX) (hb _) hline
  · refine mu_core (rd := fun σ H Q => Q [] H) hp (fun F ρ own σ H E ds ρ' h Q q => ?_) rfl h1 List.not_mem_nil E h q
    rw [denEs] at h
    cases h
    exact q [] [] own H ⟨E.F0', ⟨rfl, rfl, rfl⟩, List.nodup_nil, Post.refl⟩
theorem all_plain {pos : Pos} {env : PySem.Env} : ∀ {l : List Expr}, (∀ a, a ∈ l → ∀ x p, a ≠ .Starred x p) → (backTo pos (starEach l env)).all (fun x => !x.1) = true
  | [], _ => rfl
  | a :: l, h => by
    rw [star_of (h a List.mem_cons_self)]
    exact all_plain fun c hc => h c (List.mem_cons_of_mem _ hc)
theorem few_of {pos : Pos} {env : PySem.Env} {l : List Expr} (h : ∀ a, a ∈ l → ∀ x p, a ≠ .Starred x p) (hl : l.length < 30) : ((backTo pos (starEach l env)).all (fun x => !x.1) && (backToKw pos (keywordEach [] env)).all (fun x => x.1.isSome)
      && decide (l.length + ([] : List Keyword).length + (if ([] : List Keyword).isEmpty then 0 else 1) < 30)) = true := by
  rw [all_plain h]
  simpa [keywordEach, backToKw] using hl
theorem ok_mu {m : MU} {o e : Expr} {es : List Expr} {p : Pth} {ies : Es} {apos cpos : Pos} (hm : m ≠ .update) (hp : PthOk P w K mg base cf L o p) (he : EsOk P w K mg base cf L (e :: es) ies) (hi : ies.ios = []) (h1 : p.slot ∉ p.W) (h2 : p.slot ∉ ies.W)
    (hb : ∀ env, attributeBase o (Str.ofString m.name) env (eval o env) = eval o env) (hline : (apos.endLine == cpos.line) = true) (hst : ∀ a, a ∈ e :: es → ∀ x p, a ≠ .Starred x p) (hlen : (e :: es).length < 30) :
    EOk P w K mg base cf L (.Call (.Attribute o (Str.ofString m.name) apos) (e :: es) [] cpos) (.mu m p ies) := by
  intro F ρ own σ H E d ρ' h Q q
  refine ⟨tBM K "list" (Wm P w K mg base L m.id) (We P w K mg base L o) (Wa P w K mg base L (e :: es)), fun X hX => ?_, mu_core (rd := Wa P w K mg base L (e :: es)) hp he hi h1 h2 E h q⟩
  have e := hX.K
  subst e
  exact pe_bm pa_list (mu_slot m hm).1 (mu_slot m hm).2 (Wm.mt hX) (We.pe hX) (Wa.pa hX) (hb _) (few_of hst hlen) hline (star_of (hst _ List.mem_cons_self)) (plain_star fun a ha => hst a (List.mem_cons_of_mem _ ha))
/-! a[e], where a slot's list is its own, but what lies in it is shared: the list itself isn't held -/
theorem ok_ixc {i : Nat} {x : Str} {b : Expr} {ib : E} {pos p2 : Pos} (hN : L.N[i]? = some x) (hv : Vis L.sc x) (hd : (x == ("__debug__" : Str)) = false) (hcd : (x == ("__classdict__" : Str)) = false)
    (hb : EOk P w K mg base cf L b ib) (hs : ∀ l u st p, b ≠ .Slice l u st p) : EOk P w K mg base cf L (.Subscript (.Name x p2) b pos) (.ixc i ib) := by
  intro F ρ own σ H E d ρ' h Q q
  rw [den] at h
  obtain ⟨d0, ρ0, h0, k1⟩ := R.bind_ok h
  clear h
  obtain ⟨g0, rfl⟩ := R.opt_ok h0
  clear h0
  obtain ⟨y, ρ1, h1, k2⟩ := R.bind_ok k1
  clear k1
  obtain ⟨h2, rfl⟩ := R.opt_ok k2
  clear k2
  obtain ⟨c, hc, h3⟩ := Option.bind_eq_some_iff.mp h2
  by_cases hk : kidD c = true
  · rw [if_pos hk] at h3
    obtain ⟨xs, rfl, hn⟩ : ∃ xs, c = .lst true xs ∧ nods xs = true := by
      unfold kidD at hk
      split at hk
      · exact ⟨_, rfl, hk⟩
      · cases hk
    obtain ⟨v1, e1, _⟩ := E.rep i d0 (getS_some g0)
    refine ⟨tOp (Wx P w K mg base L) (tVar i) (We P w K mg base L b), fun X hX => pe_ix (Wx.ix hX) (pe_var (by rw [hX.N]; exact hN) (by rw [hX.sc]; exact hv) hd hcd) (We.pe hX) (plainIx_of hs), v1, e1, ?_⟩
    refine hb F _ own σ H E y _ h1 _ fun v2 P2 own2 H2 r2 => ?_
    obtain ⟨v, e2, r⟩ := r2.env.rep i _ (getS_some hc)
    rw [e1] at e2
    cases e2
    obtain ⟨a, vs, P', rfl, hs1, ep, hr⟩ := r
    have rr := Rps.frz (A' := AV F ib.U own2 []) hr fun a o e z => z.elim (fun z => ⟨fun y => z.1 (.inl y), fun y => (nomatch y), fun j _ => z.2 j⟩) fun z => by
      rw [Rps.nod hr hn] at z
      exact (nomatch z)
    have g2 := r2.frz E
    rw [frz] at h3
    unfold ixD at h3
    split at h3 <;> first | (cases h3; done) | skip
    · rename_i e5 e6
      cases e5
      rw [e6] at g2
      obtain ⟨rfl, _⟩ := g2
      obtain ⟨v, e, r⟩ := rr.atI h3
      exact ⟨rIxL K, fun X hX => hX.K ▸ ix_list, a, vs, _, v, rfl, rfl, SqL.of hs1, e, q v [] _ _ ⟨r2.env.F1.F0', r, List.nodup_nil, r2.post.drop fun _ z => nomatch z⟩⟩
    all_goals simp_all
  · rw [if_neg hk] at h3
    cases h3
end
end Mn

/-! Mn R: targets. -/
namespace Mn
open PySem L2
mutual
def T.A : T → List Nat
  | .nm i => [i] | .tup ts => ts.A | .sub _ _ => []
def Ts.A : Ts → List Nat
  | .nil => [] | .cons t ts => t.A ++ ts.A
end
def SameT (A : List Nat) (σ σ' : L2.St) : Prop := σ'.length = σ.length ∧ ∀ j, j ∉ A → σ'[j]? = σ[j]?
theorem SameT.refl {A : List Nat} {σ : L2.St} : SameT A σ σ := ⟨rfl, fun _ _ => rfl⟩
theorem SameT.trans {A A1 A2 : List Nat} {σ σ1 σ2 : L2.St} (a : SameT A1 σ σ1) (b : SameT A2 σ1 σ2) (h1 : ∀ j, j ∈ A1 → j ∈ A) (h2 : ∀ j, j ∈ A2 → j ∈ A) : SameT A σ σ2 :=
  ⟨by rw [b.1, a.1], fun j hj => by rw [b.2 j fun z => hj (h2 j z), a.2 j fun z => hj (h1 j z)]⟩
theorem SameT.mono {A A1 : List Nat} {σ σ1 : L2.St} (a : SameT A1 σ σ1) (h1 : ∀ j, j ∈ A1 → j ∈ A) : SameT A σ σ1 := ⟨a.1, fun j hj => a.2 j fun z => hj (h1 j z)⟩
/-- as Post, with nodes P held at the start -/
structure PostT (W : List Nat) (own : Own) (H : Hp) (P : List Addr) (own' : Own) (H' : Hp) : Prop where
  keep : ∀ b o, H b = some o → b ∉ P → (∀ j, j ∈ W → b ∉ own j) → H' b = some o
  there : ∀ b, H b ≠ none → H' b ≠ none
  frO : ∀ j b, b ∈ own' j → b ∈ own j ∨ (j ∈ W ∧ (H b = none ∨ b ∈ P ∨ ∃ i, i ∈ W ∧ b ∈ own i))
section
variable {K : PySem.W.Frag} {F : AP} {ρ ρ1 : Env} {own own1 own2 : Own} {σ : L2.St} {H H1 H2 : Hp} {W W1 W2 : List Nat} {P P1 P2 : List Addr} {i : Nat}
theorem PostT.mono (a : PostT W1 own H P own1 H1) (h : ∀ j, j ∈ W1 → j ∈ W) : PostT W own H P own1 H1 :=
  ⟨fun b o e n1 n2 => a.keep b o e n1 fun j hj => n2 j (h j hj), a.there, fun j b hb => (a.frO j b hb).imp id fun ⟨h1, z⟩ => ⟨h j h1, z.imp id fun z => z.imp id fun ⟨q, hq, z⟩ => ⟨q, h q hq, z⟩⟩⟩
theorem PostT.trans (a : PostT W1 own H P1 own1 H1) (b : PostT W2 own1 H1 P2 own2 H2) (h1 : ∀ j, j ∈ W1 → j ∈ W) (h2 : ∀ j, j ∈ W2 → j ∈ W) : PostT W own H (P1 ++ P2) own2 H2 where
  keep := fun c o e n1 n2 => by
    refine b.keep c o (a.keep c o e (fun z => n1 (List.mem_append_left _ z)) fun j hj => n2 j (h1 j hj)) (fun z => n1 (List.mem_append_right _ z)) fun j hj z => ?_
    rcases a.frO j c z with z | ⟨_, z | z | ⟨q, hq, z⟩⟩
    · exact n2 j (h2 j hj) z
    · rw [e] at z; cases z
    · exact n1 (List.mem_append_left _ z)
    · exact n2 q (h1 q hq) z
  there := fun c e => b.there c (a.there c e)
  frO := fun j c hc => by
    rcases b.frO j c hc with z | ⟨hj, z⟩
    · exact (a.frO j c z).imp id fun ⟨hj, z⟩ => ⟨h1 j hj, z.imp id fun z => z.imp (fun z => List.mem_append_left _ z) fun ⟨q, hq, z⟩ => ⟨q, h1 q hq, z⟩⟩
    · refine .inr ⟨h2 j hj, ?_⟩
      rcases z with z | z | ⟨q, hq, z⟩
      · left
        cases e : H c with
        | none => rfl
        | some o => exact absurd z (a.there c (by rw [e]; simp))
      · exact .inr (.inl (List.mem_append_right _ z))
      · rcases a.frO q c z with z | ⟨_, z | z | ⟨r, hr, z⟩⟩
        · exact .inr (.inr ⟨q, h2 q hq, z⟩)
        · exact .inl z
        · exact .inr (.inl (List.mem_append_left _ z))
        · exact .inr (.inr ⟨r, h1 r hr, z⟩)
theorem Post.thenT (a : Post W1 own H P own1 H1) (b : PostT W2 own1 H1 P own2 H2) (h1 : ∀ j, j ∈ W1 → j ∈ W) (h2 : ∀ j, j ∈ W2 → j ∈ W) : Post W own H [] own2 H2 where
  keep := fun c o e n => by
    refine b.keep c o (a.keep c o e fun j hj => n j (h1 j hj)) (fun z => ?_) fun j hj z => ?_
    · rcases a.frP c z with z | ⟨j, hj, z⟩
      · rw [e] at z; cases z
      · exact n j (h1 j hj) z
    · rcases a.frO j c z with z | ⟨_, z | ⟨q, hq, z⟩⟩
      · exact n j (h2 j hj) z
      · rw [e] at z; cases z
      · exact n q (h1 q hq) z
  there := fun c e => b.there c (a.there c e)
  frP := fun _ h => nomatch h
  frO := fun j c hc => by
    rcases b.frO j c hc with z | ⟨hj, z⟩
    · exact (a.frO j c z).imp id fun ⟨hj, z⟩ => ⟨h1 j hj, z.imp id fun ⟨q, hq, z⟩ => ⟨q, h1 q hq, z⟩⟩
    · refine .inr ⟨h2 j hj, ?_⟩
      rcases z with z | z | ⟨q, hq, z⟩
      · left
        cases e : H c with
        | none => rfl
        | some o => exact absurd z (a.there c (by rw [e]; simp))
      · exact (a.frP c z).imp id fun ⟨q, hq, z⟩ => ⟨q, h1 q hq, z⟩
      · rcases a.frO q c z with z | ⟨_, z | ⟨r, hr, z⟩⟩
        · exact .inr ⟨q, h2 q hq, z⟩
        · exact .inl z
        · exact .inr ⟨r, h1 r hr, z⟩
theorem PostT.refl : PostT [] own H [] own H := ⟨fun _ _ e _ _ => e, fun _ e => e, fun _ _ h => .inl h⟩
/-- a name gets a value -/
theorem EnvR.sto {d : D} {v : V} (E : EnvR K (FP F P) ρ own σ H) (r : Rp K H (AV F [] own P) d v P) (nd : P.Nodup) (hF : ∀ b, b ∈ P → ¬ F b) (hi : i < ρ.length) : EnvR K F (ρ.set i (some d)) (setO own i P) (σ.set i (some v)) H := by
  refine ⟨by rw [List.length_set, List.length_set]; exact E.len, fun j dd e => ?_, fun j hn => ?_, fun j => ?_, fun x y c hxy hx hy => ?_, fun j c hc y => ?_, fun c y => E.fa c (.inl y)⟩
  · by_cases hj : j = i
    · subst hj
      rw [List.getElem?_set_self hi] at e
      cases e
      refine ⟨v, List.getElem?_set_self (by rw [← E.len]; exact hi), ?_⟩
      rw [setO_same]
      exact r.mono (fun _ _ e _ => e) fun a _ _ z => ⟨z.1, fun q hq => (setO_mem.mp hq).elim (fun y => z.2.1 y.2) fun y => z.2.2 q List.not_mem_nil y.2⟩
    · rw [List.getElem?_set_ne (Ne.symm hj)] at e
      obtain ⟨v', e1, r1⟩ := E.rep j dd e
      refine ⟨v', by rw [List.getElem?_set_ne (Ne.symm hj)]; exact e1, ?_⟩
      rw [setO_ne hj]
      exact r1.mono (fun _ _ e _ => e) fun a _ _ z => ⟨fun y => z.1 (.inl y), fun q hq => (setO_mem.mp hq).elim (fun y => z.1 (.inr y.2)) fun y => z.2 q y.2⟩
  · by_cases hj : j = i
    · subst hj
      exact absurd (List.getElem?_set_self hi) (hn d)
    · rw [setO_ne hj]
      exact E.non j fun dd => by rw [← List.getElem?_set_ne (Ne.symm hj)]; exact hn dd
  · by_cases hj : j = i
    · rw [hj, setO_same]; exact nd
    · rw [setO_ne hj]; exact E.nd j
  · rcases setO_mem.mp hx with ⟨e1, z1⟩ | ⟨e1, z1⟩
    · rcases setO_mem.mp hy with ⟨e2, z2⟩ | ⟨e2, z2⟩
      · exact hxy (e1.trans e2.symm)
      · exact E.fr y c z2 (.inr z1)
    · rcases setO_mem.mp hy with ⟨e2, z2⟩ | ⟨e2, z2⟩
      · exact E.fr x c z1 (.inr z2)
      · exact E.dj x y c hxy z1 z2
  · rcases setO_mem.mp hc with ⟨_, z⟩ | ⟨_, z⟩
    · exact hF c z y
    · exact E.fr j c z (.inl y)
theorem PostT.sto : PostT [i] own H P (setO own i P) H :=
  ⟨fun _ _ e _ _ => e, fun _ e => e, fun j b hb => (setO_mem.mp hb).elim (fun z => .inr ⟨by rw [z.1]; exact List.mem_singleton.mpr rfl, .inr (.inl z.2)⟩) fun z => .inl z.2⟩
end
section
variable (P : Program) (w : World) (K : PySem.W.Frag) (mg : Str → Option Value) (base : Heap) (cf : Nat → List D → Option (D × List D))
def TgOk (L : Lx) (tg : Expr) (t : T) : Prop := ∀ (F : AP) (ρ : Env) (own : Own) (σ : L2.St) (H : Hp) (d : D) (v : V) (P1 : List Addr), EnvR K (FP F P1) ρ own σ H → Rp K H (AV F [] own P1) d v P1 → P1.Nodup → (∀ b, b ∈ P1 → ¬ F b) → ∀ ρ' u, denT cf t d ρ = .ok u ρ' →
  ∀ Q : L2.St → Hp → Prop, (∀ σ' own' H', EnvR K F ρ' own' σ' H' → PostT t.W own H P1 own' H' → SameT t.A σ σ' → Q σ' H') → Wg P w K mg base L tg v σ H Q
def TgsOk (L : Lx) (tg : List Expr) (t : Ts) : Prop := ∀ (F : AP) (ρ : Env) (own : Own) (σ : L2.St) (H : Hp) (ds : List D) (vs : List V) (P1 : List Addr), EnvR K (FP F P1) ρ own σ H → Rps K H (AV F [] own P1) ds vs P1 → P1.Nodup → (∀ b, b ∈ P1 → ¬ F b) → ∀ ρ' u, denTs cf t ds ρ = .ok u ρ' →
  ∀ Q : L2.St → Hp → Prop, (∀ σ' own' H', EnvR K F ρ' own' σ' H' → PostT t.W own H P1 own' H' → SameT t.A σ σ' → Q σ' H') → Wgs P w K mg base L tg vs σ H Q
end
section
variable {P : Program} {w : World} {K : PySem.W.Frag} {mg : Str → Option Value} {base : Heap} {cf : Nat → List D → Option (D × List D)} {L : Lx}
theorem setS_ok {ρ ρ' : Env} {i : Nat} {d : D} {u : Unit} (h : setS ρ i d = .ok u ρ') : i < ρ.length ∧ ρ' = ρ.set i (some d) := by
  unfold setS at h
  by_cases hi : i < ρ.length
  · rw [if_pos hi] at h; cases h; exact ⟨hi, rfl⟩
  · rw [if_neg hi] at h; cases h
theorem tg_nm {i : Nat} {x : Str} {pos : Pos} (hnd : L.N.Nodup) (hN : L.N[i]? = some x) (hl : Loc L.sc x) (hf : L.fn x = true ∨ L.sc.names.lookup x = some .local) : TgOk P w K mg base cf L (.Name x pos) (.nm i) := by
  intro F ρ own σ H d v P1 E r nd hF ρ' u h Q q
  rw [denT] at h
  obtain ⟨hi, rfl⟩ := setS_ok h
  refine ⟨gName i, fun X hX => pg_name (by rw [hX.N]; exact hnd) (by rw [hX.N]; exact hN) (by rw [hX.sc]; exact hl) (by rw [hX.sc, hX.fn]; exact hf), ?_⟩
  exact q _ _ H (E.sto r nd hF hi) PostT.sto ⟨List.length_set, fun j hj => List.getElem?_set_ne fun e => hj (by rw [← e]; exact List.mem_singleton.mpr rfl)⟩
theorem tgs_nil : TgsOk P w K mg base cf L [] .nil := by
  intro F ρ own σ H ds vs P1 E r nd hF ρ' u h Q q
  cases ds with
  | cons => rw [denTs] at h; cases h; all_goals intros; contradiction
  | nil =>
    rw [denTs] at h
    cases h
    obtain ⟨rfl, rfl⟩ := r
    exact ⟨gNil, fun X _ => pgs_nil, rfl, q σ own H E.F0 PostT.refl .refl⟩
theorem asg_each {e : Expr} {es : List Expr} {env : PySem.Env} (h : ∀ a p, e ≠ .Starred a p) : assignEach (e :: es) env = (false, assign e env) :: assignEach es env := by
  cases e <;> first | rfl | exact absurd rfl (h _ _)
theorem asg_all {env : PySem.Env} : ∀ {es : List Expr}, (∀ e, e ∈ es → ∀ a p, e ≠ .Starred a p) → (assignEach es env).length = es.length ∧ (assignEach es env).findIdx? (·.1) = none
  | [], _ => ⟨rfl, rfl⟩
  | e :: es, h => by
    rw [asg_each (h e List.mem_cons_self)]
    obtain ⟨h1, h2⟩ := asg_all (env := env) (es := es) fun c hc => h c (List.mem_cons_of_mem _ hc)
    refine ⟨by rw [List.length_cons, List.length_cons, h1], ?_⟩
    rw [List.findIdx?_cons, h2]
    rfl
theorem tgs_cons {e : Expr} {es : List Expr} {t : T} {ts : Ts} (h1 : TgOk P w K mg base cf L e t) (h2 : TgsOk P w K mg base cf L es ts) (hs : ∀ a p, e ≠ .Starred a p) : TgsOk P w K mg base cf L (e :: es) (.cons t ts) := by
  intro F ρ own σ H ds vs P1 E r nd hF ρ' u h Q q
  cases ds with
  | nil => rw [denTs] at h; cases h; all_goals intros; contradiction
  | cons d dr =>
    rw [denTs] at h
    obtain ⟨_, ρ1, g1, g2⟩ := R.bind_ok h
    obtain ⟨v, vr, Pa, Pb, rfl, rfl, r1, r2⟩ := r
    have nd' := List.nodup_append.mp nd
    have E' : EnvR K (FP (FP F Pb) Pa) ρ own σ H := E.less fun b z => z.elim (fun z => z.elim .inl fun z => .inr (List.mem_append_right _ z)) fun z => .inr (List.mem_append_left _ z)
    refine ⟨gCons (Wg P w K mg base L e) (Wgs P w K mg base L es), fun X hX => pgs_cons (Wg.pg hX) (Wgs.pgs hX) (by rw [asg_each hs]; rfl), v, vr, rfl, ?_⟩
    refine h1 (FP F Pb) ρ own σ H d v Pa E' (r1.mono (fun _ _ e _ => e) fun a _ _ z => ⟨fun y => y.elim z.1 fun y => z.2.1 (List.mem_append_right _ y), fun y => z.2.1 (List.mem_append_left _ y), z.2.2⟩) nd'.1
      (fun b hb z => z.elim (hF b (List.mem_append_left _ hb)) fun z => nd'.2.2 b hb b z rfl) ρ1 _ g1 _ fun σ1 own1 H1 E1 p1 s1 => ?_
    have rr : Rps K H1 (AV F [] own1 Pb) dr vr Pb := r2.mono (fun b o eb z => p1.keep b o eb (fun y => ?_) fun j hj y => ?_) fun a o ea z => ⟨z.1, fun y => z.2.1 (List.mem_append_right _ y), fun j _ y => ?_⟩
    · refine h2 F ρ1 own1 σ1 H1 dr vr Pb E1 rr nd'.2.1 (fun b hb => hF b (List.mem_append_right _ hb)) ρ' _ g2 Q fun σ2 own2 H2 E2 p2 s2 => ?_
      exact q σ2 own2 H2 E2 (p1.trans p2 mem_l mem_r) (s1.trans s2 mem_l mem_r)
    · rcases z with z | z | z
      · exact nd'.2.2 b y b z rfl
      · exact z.2.1 (List.mem_append_left _ y)
      · obtain ⟨o', e', n⟩ := r1.there b y
        rw [eb] at e'; cases e'
        exact n z
    · rcases z with z | z | z
      · exact E.fr j b y (.inr (List.mem_append_right _ z))
      · exact z.2.2 j List.not_mem_nil y
      · obtain ⟨o', e', n⟩ := E.own_there y
        rw [eb] at e'; cases e'
        exact n z
    · rcases p1.frO j a y with y | ⟨_, y | y | ⟨i, _, y⟩⟩
      · exact z.2.2 j List.not_mem_nil y
      · rw [ea] at y; cases y
      · exact z.2.1 (List.mem_append_left _ y)
      · exact z.2.2 i List.not_mem_nil y
theorem tg_tup {es : List Expr} {ts : Ts} {k : Nat} {pos : Pos} (h : TgsOk P w K mg base cf L es ts) (hs : ∀ e, e ∈ es → ∀ a p, e ≠ .Starred a p) (hlen : ∀ (ds : List D) (ρ ρ' : Env) (u : Unit), denTs cf ts ds ρ = .ok u ρ' → ds.length = es.length) :
    TgOk P w K mg base cf L (.Tuple es k pos) (.tup ts) := by
  intro F ρ own σ H d v P1 E r nd hF ρ' u hd Q q
  obtain ⟨xs, rfl, hd⟩ : ∃ xs, d = .tup xs ∧ denTs cf ts xs ρ = .ok u ρ' := by
    cases d with
    | tup xs => exact ⟨xs, rfl, by rw [denT] at hd; exact hd⟩
    | _ => simp [denT] at hd
  obtain ⟨a, vs, rfl, hsq, rr⟩ := r
  refine ⟨gTup K es.length (Wgs P w K mg base L es), fun X hX => ?_, a, vs, rfl, hsq, by rw [rr.length]; exact hlen _ _ _ _ hd, h F ρ own σ H xs vs P1 E rr nd hF ρ' u hd Q q⟩
  have e := hX.K
  subst e
  exact pg_tup hX.calm (Wgs.pgs hX) (asg_all hs).1 (asg_all hs).2
def Ts.len : Ts → Nat
  | .nil => 0 | .cons _ ts => ts.len + 1
theorem denTs_len : ∀ {ts : Ts} {ds : List D} {ρ ρ' : Env} {u : Unit}, denTs cf ts ds ρ = .ok u ρ' → ds.length = ts.len
  | .nil, [], _, _, _, _ => rfl
  | .nil, _ :: _, _, _, _, h => by rw [denTs] at h; cases h; all_goals intros; contradiction
  | .cons _ _, [], _, _, _, h => by rw [denTs] at h; cases h; all_goals intros; contradiction
  | .cons t ts, d :: ds, ρ, ρ', u, h => by
    rw [denTs] at h
    obtain ⟨_, ρ1, _, g2⟩ := R.bind_ok h
    rw [List.length_cons, Ts.len, denTs_len g2]
end
end Mn

/-! Mn S: a[k] = v as a target. -/
namespace Mn
open PySem L2
section
variable {P : Program} {w : World} {K : PySem.W.Frag} {mg : Str → Option Value} {base : Heap} {cf : Nat → List D → Option (D × List D)} {L : Lx}
theorem setD_node {c k v c' : D} (h : setD c k v = some c') : (∃ xs, c = .lst true xs) ∨ ∃ ks xs, c = .dk true ks xs := by
  unfold setD at h
  split at h <;> first | exact .inl ⟨_, rfl⟩ | exact .inr ⟨_, _, rfl⟩ | cases h
theorem tg_sub {o e : Expr} {p : Pth} {ie : E} {pos : Pos} (hp : PthOk P w K mg base cf L o p) (he : EOk P w K mg base cf L e ie) (h1 : p.slot ∉ p.W) (h2 : p.slot ∉ ie.W) (hs : ∀ l u st q, e ≠ .Slice l u st q) : TgOk P w K mg base cf L (.Subscript o e pos) (.sub p ie) := by
  intro F ρ own σ H v vv Py E r nd hF ρ' u h Q q
  rw [denT] at h
  obtain ⟨ks, ρ0, e1, h⟩ := R.bind_ok h
  obtain ⟨k, ρ1, e2, h⟩ := R.bind_ok h
  obtain ⟨hf, h⟩ := R.grd_ok h
  cases hs1 : getS ρ1 p.slot with
  | none => rw [hs1] at h; cases h
  | some d0 =>
    rw [hs1] at h
    cases hb : (getP d0 ks).bind fun c => setD c k v with
    | none => simp only [hb] at h; cases h
    | some c' =>
      simp only [hb] at h
      cases hput : putP d0 ks c' with
      | none => rw [hput] at h; cases h
      | some d' =>
        rw [hput] at h
        cases h
        obtain ⟨c, hgp, hset⟩ := Option.bind_eq_some_iff.mp hb
        have s0 : getS ρ0 p.slot = some d0 := by rw [← getS_same (den_same e2) h2]; exact hs1
        have sA : getS ρ p.slot = some d0 := by rw [← getS_same (denP_same e1) h1]; exact s0
        refine ⟨gSub (We P w K mg base L o) (We P w K mg base L e) (Ws P w K mg base L), fun X hX => pg_sub (We.pe hX) (We.pe hX) (Ws.set hX) (fun v => ?_), ?_⟩
        · cases e <;> first | rfl | exact absurd rfl (hs _ _ _ _)
        refine hp _ ρ own σ H E ks ρ0 e1 d0 c sA hgp _ fun own0 H0 vs z E0 p0 sv a0 => ?_
        refine he _ ρ0 own0 σ H0 E0 k ρ1 e2 _ fun vk Pk own1 H1 rk => ?_
        obtain ⟨E1, p1⟩ := rk.drop
        have p01 : Post (p.W ++ ie.W) own H [] own1 H1 := p0.trans p1
        have rv : Rp K H1 (AE (FP F Py) own1) v vv Py := by
          have := r.over (U := []) E p01 (.inl fun _ z => nomatch z) fun _ z => nomatch z
          exact this.mono (fun _ _ e _ => e) fun a _ _ z => ⟨fun y => y.elim z.1 fun y => z.2.1 (List.mem_append_left _ y), fun j => z.2.2 j List.not_mem_nil⟩
        obtain ⟨v', sv', rr⟩ := E1.rep _ d0 (getS_some hs1)
        rw [sv] at sv'; cases sv'
        obtain ⟨uu, Pc, Pa, Pb, a1, ep, rc, back⟩ := rr.lens hgp
        have := a1.det (a0.over E0 rk.post h2)
        subst this
        obtain ⟨_, fl⟩ := rk.rep.fl (H' := H1) (A' := AE (FP F Py) own1) hf
        have inI : ∀ b, b ∈ Pc → b ∈ own1 p.slot := fun b hb => by rw [ep]; exact List.mem_append_left _ (List.mem_append_right _ hb)
        have nd1 := E1.nd p.slot
        rw [ep] at nd1
        have nd2 := List.nodup_append.mp nd1
        have nd3 := List.nodup_append.mp nd2.1
        have cross : ∀ b, b ∈ own1 p.slot → b ∉ Py := fun b hb z => E1.fr p.slot b hb (.inr z)
        refine setD_ok hset rc fl rv (List.nodup_append.mpr ⟨nd3.2.1, nd, fun x hx y hy e => cross x (inI x hx) (e ▸ hy)⟩) (fun b hb z => (List.mem_append.mp hb).elim (fun y => z.2 p.slot (inI b y)) fun y => z.1 (.inr y)) fun a H' Pc' eu ha but rc' nd' sub => ?_
        have own_a := inI a ha
        have still : ∀ o, H1 a = some o → ¬ Still o := fun o e => by
          obtain ⟨o', e', n⟩ := E1.own_there own_a
          rw [e] at e'; cases e'
          exact n
        have nA : ¬ AE (FP F Py) own1 a := fun z => z.2 p.slot own_a
        have rd' := back H' (AE (FP F Py) own1) c' d' Pc' hput (fun b o e z => but.1 b o e fun y => by
            subst y
            rcases z with z | z | z
            · rcases List.mem_append.mp z with z | z
              · exact nd3.2.2 b z b ha rfl
              · exact nd2.2.2 b (List.mem_append_right _ ha) b z rfl
            · exact nA z
            · exact still o e z) (fun _ _ _ z => z) rc'
        have sub' : ∀ c, c ∈ (Pa ++ Pc' ++ Pb) ++ [] → c ∈ own1 p.slot ∨ c ∈ Py := fun c hc => by
          have : c ∈ Pa ++ Pb ∨ c ∈ Pc' := by
            simp only [List.mem_append] at hc ⊢
            rcases hc with ((hc | hc) | hc) | hc
            · exact .inl (.inl hc)
            · exact .inr hc
            · exact .inl (.inr hc)
            · cases hc
          rcases this with z | z
          · left
            rw [ep]
            rcases List.mem_append.mp z with z | z
            · exact List.mem_append_left _ (List.mem_append_left _ z)
            · exact List.mem_append_right _ z
          · exact (List.mem_append.mp (sub c z)).imp (inI c) id
        have sideNot : ∀ c, c ∈ Pa ++ Pb → c ∉ Pc' := fun c hc z => by
          have hO : c ∈ own1 p.slot := by
            rw [ep]
            rcases List.mem_append.mp hc with hc | hc
            · exact List.mem_append_left _ (List.mem_append_left _ hc)
            · exact List.mem_append_right _ hc
          rcases List.mem_append.mp (sub c z) with y | y
          · rcases List.mem_append.mp hc with hc | hc
            · exact nd3.2.2 c hc c y rfl
            · exact nd2.2.2 c (List.mem_append_right _ y) c hc rfl
          · exact cross c hO y
        have ndn : ((Pa ++ Pc' ++ Pb) ++ []).Nodup := by
          rw [List.append_nil]
          simp only [List.nodup_append, List.mem_append] at nd2 nd3 ⊢
          refine ⟨⟨nd3.1, nd', fun x hx y hy e => sideNot x (List.mem_append_left _ hx) (e ▸ hy)⟩, nd2.2.1, fun x hx y hy e => ?_⟩
          rcases hx with hx | hx
          · exact nd2.2.2 x (.inl hx) y hy e
          · exact sideNot y (List.mem_append_right _ hy) (e ▸ hx)
        have Ef := E1.put hs1 own_a but sv rd' sub' ndn hF (fun _ z => nomatch z)
        refine q σ _ H' Ef.F0 ⟨fun b o e n1 n2 => but.1 b o (p01.keep b o e fun j hj => n2 j (List.mem_cons_of_mem _ hj)) fun z => ?_, fun b e => but.2 b (p01.there b e), fun j b hb => ?_⟩ .refl
        · subst z
          rcases p01.frO _ b own_a with z | ⟨_, z | ⟨j, hj, z⟩⟩
          · exact n2 _ List.mem_cons_self z
          · rw [e] at z; cases z
          · exact n2 j (List.mem_cons_of_mem _ hj) z
        · have src : b ∈ own1 p.slot → H b = none ∨ b ∈ Py ∨ ∃ i, i ∈ p.slot :: (p.W ++ ie.W) ∧ b ∈ own i := fun z => by
            rcases p01.frO _ b z with z | ⟨_, z | ⟨j, hj, z⟩⟩
            · exact .inr (.inr ⟨p.slot, List.mem_cons_self, z⟩)
            · exact .inl z
            · exact .inr (.inr ⟨j, List.mem_cons_of_mem _ hj, z⟩)
          rcases setO_mem.mp hb with ⟨e1, z⟩ | ⟨e1, z⟩
          · refine .inr ⟨by rw [e1]; exact List.mem_cons_self, ?_⟩
            exact (sub' b (List.mem_append_left _ z)).elim src fun y => .inr (.inl y)
          · rcases p01.frO _ b z with z | ⟨hj, z | ⟨q, hq, z⟩⟩
            · exact .inl z
            · exact .inr ⟨List.mem_cons_of_mem _ hj, .inl z⟩
            · exact .inr ⟨List.mem_cons_of_mem _ hj, .inr (.inr ⟨q, List.mem_cons_of_mem _ hq, z⟩)⟩
end
end Mn

/-! Mn T: statements. -/
namespace Mn
open PySem L2
mutual
def S.A : S → List Nat
  | .each i _ _ => [i]
  | .asg t _ _ => t.A | .par is _ _ => is | .aug i _ _ => [i] | .ex _ => [] | .ite _ a b => a.A ++ b.A | .for_ t _ _ _ body => t.A ++ body.A | .whl _ body => body.A
  | .ret _ _ => [] | .retn => [] | .brk => [] | .cnt => [] | .pas => [] | .nev => []
def Ss.A : Ss → List Nat
  | .nil => [] | .cons s ss => s.A ++ ss.A
end
section
variable (K : PySem.W.Frag) (F : AP) (W A : List Nat) (own : Own) (σ : L2.St) (H : Hp) (D : Ends)
/-- what comes of a run is what is wanted -/
def OutOk : O → Prop
  | .nx ρ' => ∀ σ' own' H', EnvR K F ρ' own' σ' H' → Post W own H [] own' H' → SameT A σ σ' → D.nx σ' H'
  | .bk ρ' => ∀ σ' own' H', EnvR K F ρ' own' σ' H' → Post W own H [] own' H' → SameT A σ σ' → D.bk σ' H'
  | .ct ρ' => ∀ σ' own' H', EnvR K F ρ' own' σ' H' → Post W own H [] own' H' → SameT A σ σ' → D.ct σ' H'
  | .rt d ρ' => ∀ σ' own' H' v P1, EnvR K (FP F P1) ρ' own' σ' H' → Rp K H' (AV F [] own' P1) d v P1 → P1.Nodup → Post W own H P1 own' H' → SameT A σ σ' → D.rt v H'
  | .bad => False
end
section
variable {K : PySem.W.Frag} {F : AP} {W W1 W2 A A1 A2 : List Nat} {own own1 : Own} {σ σ1 : L2.St} {H H1 : Hp} {Z : Ends} {o : O}
theorem OutOk.behind (h : OutOk K F W A own σ H Z o) (p : Post W1 own H [] own1 H1) (s : SameT A1 σ σ1) (w1 : ∀ j, j ∈ W1 → j ∈ W) (w2 : ∀ j, j ∈ W2 → j ∈ W) (a1 : ∀ j, j ∈ A1 → j ∈ A) (a2 : ∀ j, j ∈ A2 → j ∈ A) : OutOk K F W2 A2 own1 σ1 H1 Z o := by
  have w : ∀ j, j ∈ W1 ++ W2 → j ∈ W := fun j hj => (List.mem_append.mp hj).elim (w1 j) (w2 j)
  cases o with
  | nx ρ' => exact fun σ' own' H' E q t => h σ' own' H' E ((p.trans q).mono w) (s.trans t a1 a2)
  | bk ρ' => exact fun σ' own' H' E q t => h σ' own' H' E ((p.trans q).mono w) (s.trans t a1 a2)
  | ct ρ' => exact fun σ' own' H' E q t => h σ' own' H' E ((p.trans q).mono w) (s.trans t a1 a2)
  | rt d ρ' => exact fun σ' own' H' v P1 E r n q t => h σ' own' H' v P1 E r n ((p.trans q).mono w) (s.trans t a1 a2)
  | bad => exact h.elim
theorem OutOk.mono (h : OutOk K F W A own σ H Z o) (w2 : ∀ j, j ∈ W2 → j ∈ W) (a2 : ∀ j, j ∈ A2 → j ∈ A) : OutOk K F W2 A2 own σ H Z o := h.behind Post.refl (SameT.refl (A := [])) (fun _ z => nomatch z) w2 (fun _ z => nomatch z) a2
/-! slots whose nodes are shared from now on -/
def offS (vs : List Nat) (own : Own) : Own := fun j => if j ∈ vs then [] else own j
theorem offS_mem {vs : List Nat} {j : Nat} {b : Addr} (h : b ∈ offS vs own j) : j ∉ vs ∧ b ∈ own j := by
  unfold offS at h
  by_cases hj : j ∈ vs
  · rw [if_pos hj] at h; cases h
  · rw [if_neg hj] at h; exact ⟨hj, h⟩
theorem offS_no {vs : List Nat} {j : Nat} (h : j ∉ vs) : offS vs own j = own j := by unfold offS; rw [if_neg h]
theorem frzS_get {vs : List Nat} {ρ : Env} {j : Nat} : (frzS vs ρ)[j]? = (ρ[j]?).map fun o => if j ∈ vs then o.map frz else o := by
  unfold frzS
  rw [List.getElem?_mapIdx]
theorem EnvR.frzS {ρ : Env} (E : EnvR K F ρ own σ H) (vs : List Nat) : EnvR K F (Mn.frzS vs ρ) (offS vs own) σ H := by
  have A1 : ∀ a, AE F own a → AE F (offS vs own) a := fun a z => ⟨z.1, fun i hi => z.2 i (offS_mem hi).2⟩
  refine ⟨by unfold Mn.frzS; rw [List.length_mapIdx]; exact E.len, fun j d e => ?_, fun j hn => ?_, fun j => ?_, fun x y c hxy hx hy => E.dj x y c hxy (offS_mem hx).2 (offS_mem hy).2, fun j c hc => E.fr j c (offS_mem hc).2, E.fa⟩
  · rw [frzS_get] at e
    obtain ⟨o, e1, e2⟩ := Option.map_eq_some_iff.mp e
    by_cases hj : j ∈ vs
    · rw [if_pos hj] at e2
      obtain ⟨d0, rfl, rfl⟩ := Option.map_eq_some_iff.mp e2
      obtain ⟨v, h1, r⟩ := E.rep j d0 e1
      refine ⟨v, h1, ?_⟩
      have : offS vs own j = [] := by unfold offS; rw [if_pos hj]
      rw [this]
      exact r.frz fun a o e z => z.elim (A1 a) fun z => ⟨E.fr j a z, fun i hi => E.dj j i a (fun q => (offS_mem hi).1 (q ▸ hj)) z (offS_mem hi).2⟩
    · rw [if_neg hj] at e2
      subst e2
      obtain ⟨v, h1, r⟩ := E.rep j d e1
      refine ⟨v, h1, ?_⟩
      rw [offS_no hj]
      exact r.mono (fun _ _ e _ => e) fun a _ _ => A1 a
  · by_cases hj : j ∈ vs
    · unfold offS; rw [if_pos hj]
    · rw [offS_no hj]
      refine E.non j fun d e => hn d ?_
      rw [frzS_get, e, Option.map_some, if_neg hj]
  · by_cases hj : j ∈ vs
    · unfold offS; rw [if_pos hj]; exact List.nodup_nil
    · rw [offS_no hj]; exact E.nd j
theorem Post.off {P1 : List Addr} (p : Post W own H P1 own1 H1) (vs : List Nat) : Post W own H P1 (offS vs own1) H1 := ⟨p.keep, p.there, p.frP, fun j b hb => p.frO j b (offS_mem hb).2⟩
theorem settle1 {U : List Nat} {ρ1 : Env} {d : D} {v : V} {P1 : List Addr} {vs : List Nat} (E : EnvR K (FP F P1) ρ1 own1 σ H1) (r : Rp K H1 (AV F U own1 P1) d v P1) (p : Post W own H P1 own1 H1) (hU : ∀ j, j ∈ U → j ∈ vs) :
    ∃ own2, EnvR K (FP F P1) (if nfm d = true then ρ1 else frzS vs ρ1) own2 σ H1 ∧ Rp K H1 (AV F [] own2 P1) d v P1 ∧ Post W own H P1 own2 H1 := by
  by_cases hn : nfm d = true
  · rw [if_pos hn]
    exact ⟨own1, E, r.nfm hn, p⟩
  · rw [if_neg hn]
    refine ⟨offS vs own1, E.frzS vs, r.mono (fun _ _ e _ => e) fun a _ _ z => ⟨z.1, z.2.1, fun j _ hj => ?_⟩, p.off vs⟩
    exact z.2.2 j (fun y => (offS_mem hj).1 (hU j y)) (offS_mem hj).2
theorem settleN {U : List Nat} {ρ1 : Env} {ds : List D} {us : List V} {P1 : List Addr} {vs : List Nat} (E : EnvR K (FP F P1) ρ1 own1 σ H1) (r : Rps K H1 (AV F U own1 P1) ds us P1) (p : Post W own H P1 own1 H1) (hU : ∀ j, j ∈ U → j ∈ vs) :
    ∃ own2, EnvR K (FP F P1) (if nfms ds = true then ρ1 else frzS vs ρ1) own2 σ H1 ∧ Rps K H1 (AV F [] own2 P1) ds us P1 ∧ Post W own H P1 own2 H1 := by
  by_cases hn : nfms ds = true
  · rw [if_pos hn]
    exact ⟨own1, E, r.nfm hn, p⟩
  · rw [if_neg hn]
    refine ⟨offS vs own1, E.frzS vs, r.mono (fun _ _ e _ => e) fun a _ _ z => ⟨z.1, z.2.1, fun j _ hj => ?_⟩, p.off vs⟩
    exact z.2.2 j (fun y => (offS_mem hj).1 (hU j y)) (offS_mem hj).2
/-! several names get values -/
def stoL : L2.St → List Nat → List V → L2.St
  | σ, i :: is, v :: vs => stoL (σ.set i (some v)) is vs
  | σ, _, _ => σ
theorem stoL_same : ∀ {is : List Nat} {vs : List V} {σ : L2.St}, SameT is σ (stoL σ is vs)
  | [], vs, σ => by unfold stoL; exact .refl
  | i :: is, [], σ => by unfold stoL; exact .refl
  | i :: is, v :: vs, σ => by
    unfold stoL
    exact SameT.trans (A1 := [i]) ⟨List.length_set, fun j hj => List.getElem?_set_ne fun e => hj (by rw [← e]; exact List.mem_singleton.mpr rfl)⟩ (stoL_same (is := is) (vs := vs)) (fun j hj => by rw [List.mem_singleton.mp hj]; exact List.mem_cons_self) fun j hj => List.mem_cons_of_mem _ hj
theorem EnvR.stos : ∀ {is : List Nat} {ds : List D} {us : List V} {P1 : List Addr} {ρ ρ' : Env} {own : Own} {σ : L2.St} {u : Unit}, EnvR K (FP F P1) ρ own σ H → Rps K H (AV F [] own P1) ds us P1 → P1.Nodup → (∀ b, b ∈ P1 → ¬ F b) → setSs ρ is ds = .ok u ρ' →
    ∃ own', EnvR K F ρ' own' (stoL σ is us) H ∧ PostT is own H P1 own' H ∧ us.length = is.length
  | [], [], us, P1, ρ, ρ', own, σ, u, E, r, nd, hF, h => by
    unfold setSs at h
    cases h
    obtain ⟨rfl, rfl⟩ := r
    exact ⟨own, E.F0, PostT.refl, rfl⟩
  | [], _ :: _, us, P1, ρ, ρ', own, σ, u, E, r, nd, hF, h => by unfold setSs at h; cases h
  | _ :: _, [], us, P1, ρ, ρ', own, σ, u, E, r, nd, hF, h => by unfold setSs at h; cases h
  | i :: is, d :: ds, us, P1, ρ, ρ', own, σ, u, E, r, nd, hF, h => by
    unfold setSs at h
    obtain ⟨_, ρ1, g1, g2⟩ := R.bind_ok h
    obtain ⟨hi, rfl⟩ := setS_ok g1
    obtain ⟨v, vr, Pa, Pb, rfl, rfl, r1, r2⟩ := r
    have nd' := List.nodup_append.mp nd
    have E' : EnvR K (FP (FP F Pb) Pa) ρ own σ H := E.less fun b z => z.elim (fun z => z.elim .inl fun z => .inr (List.mem_append_right _ z)) fun z => .inr (List.mem_append_left _ z)
    have E1 := E'.sto (r1.mono (fun _ _ e _ => e) fun a _ _ z => ⟨fun y => y.elim z.1 fun y => z.2.1 (List.mem_append_right _ y), fun y => z.2.1 (List.mem_append_left _ y), z.2.2⟩) nd'.1
      (fun b hb z => z.elim (hF b (List.mem_append_left _ hb)) fun z => nd'.2.2 b hb b z rfl) hi
    have rr : Rps K H (AV F [] (setO own i Pa) Pb) ds vr Pb := r2.mono (fun _ _ e _ => e) fun a o ea z => ⟨z.1, fun y => z.2.1 (List.mem_append_right _ y), fun j _ y => (setO_mem.mp y).elim (fun y => z.2.1 (List.mem_append_left _ y.2)) fun y => z.2.2 j List.not_mem_nil y.2⟩
    obtain ⟨own', E2, p2, hl⟩ := EnvR.stos E1 rr nd'.2.1 (fun b hb => hF b (List.mem_append_right _ hb)) g2
    refine ⟨own', by unfold stoL; exact E2, ?_, by rw [List.length_cons, List.length_cons, hl]⟩
    exact PostT.sto.trans p2 (fun j hj => by rw [List.mem_singleton.mp hj]; exact List.mem_cons_self) fun j hj => List.mem_cons_of_mem _ hj
end
section
variable (P : Program) (w : World) (K : PySem.W.Frag) (mg : Str → Option Value) (base : Heap) (cf : Nat → List D → Option (D × List D)) (wf : Nat)
def Wst (L : Lx) (st : Stmt) : TS := fun D σ H => ∃ t : TS, (∀ X, InX P w K mg base L X → PS X st t) ∧ t D σ H
def Wsts (L : Lx) (st : List Stmt) : TS := fun D σ H => ∃ t : TS, (∀ X, InX P w K mg base L X → PSs X st t) ∧ t D σ H
def SOk (L : Lx) (st : Stmt) (s : S) : Prop := ∀ (F : AP) (ρ : Env) (own : Own) (σ : L2.St) (H : Hp), EnvR K F ρ own σ H → ∀ D : Ends, OutOk K F s.W s.A own σ H D (denS cf wf s ρ) → Wst P w K mg base L st D σ H
def SsOk (L : Lx) (st : List Stmt) (s : Ss) : Prop := ∀ (F : AP) (ρ : Env) (own : Own) (σ : L2.St) (H : Hp), EnvR K F ρ own σ H → ∀ D : Ends, OutOk K F s.W s.A own σ H D (denSs cf wf s ρ) → Wsts P w K mg base L st D σ H
end
section
variable {P : Program} {w : World} {K : PySem.W.Frag} {mg : Str → Option Value} {base : Heap} {cf : Nat → List D → Option (D × List D)} {wf : Nat} {L : Lx}
theorem Wst.ps {X : Cx} {st : Stmt} (h : InX P w K mg base L X) : PS X st (Wst P w K mg base L st) := ⟨fun pins s σ H D I ⟨_, p, q⟩ => (p X h).run pins s σ H D I q⟩
theorem Wsts.pss {X : Cx} {st : List Stmt} (h : InX P w K mg base L X) : PSs X st (Wsts P w K mg base L st) := ⟨fun pins s σ H D I ⟨_, p, q⟩ => (p X h).run pins s σ H D I q⟩
theorem InX.nox {X : Cx} (h : InX P w K mg base L X) : InX P w K mg base L X.nox := ⟨h.prog, h.w, h.K, h.mg, h.base, h.N, h.sc, h.fn, h.calm, h.room, h.gd⟩
theorem PS.nox {X : Cx} {st : Stmt} {t : TS} (h : PS X.nox st t) : PS X st t := ⟨fun pins s σ H D I hw => wpAny_mono (h.run pins s σ H D (I.wish _) hw) (fun _ _ q => q.unwish) fun _ _ z => False.elim z⟩
theorem nx_ok {α : Type} {r : R α} {f : α → Env → O} {W A : List Nat} {F : AP} {own : Own} {σ : L2.St} {H : Hp} {D : Ends} (h : OutOk K F W A own σ H D (r.nx f)) : ∃ a ρ1, r = .ok a ρ1 ∧ OutOk K F W A own σ H D (f a ρ1) := by
  cases r with
  | ok a ρ1 => exact ⟨a, ρ1, rfl, h⟩
  | bad => exact h.elim
theorem ss_nil : SsOk P w K mg base cf wf L [] .nil := by
  intro F ρ own σ H E D h
  rw [denSs] at h
  exact ⟨tNext, fun X _ => pss_nil, h σ own H E (Post.refl.mono fun _ z => nomatch z) .refl⟩
theorem ss_cons {st : Stmt} {rest : List Stmt} {s : S} {ss : Ss} (h1 : SOk P w K mg base cf wf L st s) (h2 : SsOk P w K mg base cf wf L rest ss) : SsOk P w K mg base cf wf L (st :: rest) (.cons s ss) := by
  intro F ρ own σ H E D h
  refine ⟨tSeq (Wst P w K mg base L st) (Wsts P w K mg base L rest), fun X hX => pss_cons (Wst.ps hX) (Wsts.pss hX), ?_⟩
  refine h1 F ρ own σ H E _ ?_
  rw [denSs] at h
  cases e : denS cf wf s ρ with
  | nx ρ' =>
    rw [e] at h
    exact fun σ' own' H' E' q t => h2 F ρ' own' σ' H' E' D (OutOk.behind h q t mem_l mem_r mem_l mem_r)
  | bk ρ' => rw [e] at h; exact OutOk.mono (A := (Ss.cons s ss).A) (o := .bk ρ') h mem_l mem_l
  | ct ρ' => rw [e] at h; exact OutOk.mono (A := (Ss.cons s ss).A) (o := .ct ρ') h mem_l mem_l
  | rt d ρ' => rw [e] at h; exact OutOk.mono (A := (Ss.cons s ss).A) (o := .rt d ρ') h mem_l mem_l
  | bad => rw [e] at h; exact h.elim
/-- statements whose rest is never reached -/
theorem ss_cut {st : Stmt} {rest : List Stmt} {s : S} (h1 : SOk P w K mg base cf wf L st s) (hn : ∀ ρ ρ', denS cf wf s ρ ≠ .nx ρ') : SsOk P w K mg base cf wf L (st :: rest) (.cons s .nil) := by
  intro F ρ own σ H E D h
  refine ⟨tSeq (Wst P w K mg base L st) tNever, fun X hX => pss_cons (Wst.ps hX) pss_never, ?_⟩
  refine h1 F ρ own σ H E _ ?_
  rw [denSs] at h
  cases e : denS cf wf s ρ with
  | nx ρ' => exact absurd e (hn ρ ρ')
  | bk ρ' => rw [e] at h; exact OutOk.mono (A := (Ss.cons s .nil).A) (o := .bk ρ') h mem_l mem_l
  | ct ρ' => rw [e] at h; exact OutOk.mono (A := (Ss.cons s .nil).A) (o := .ct ρ') h mem_l mem_l
  | rt d ρ' => rw [e] at h; exact OutOk.mono (A := (Ss.cons s .nil).A) (o := .rt d ρ') h mem_l mem_l
  | bad => rw [e] at h; exact h.elim
theorem s_nev {st : Stmt} : SOk P w K mg base cf wf L st .nev := by
  intro F ρ own σ H E D h
  rw [denS] at h
  exact h.elim
theorem ss_nev {st : List Stmt} : SsOk P w K mg base cf wf L st (.cons .nev .nil) := by
  intro F ρ own σ H E D h
  rw [denSs, denS] at h
  exact h.elim
theorem s_pass {pos : Pos} : SOk P w K mg base cf wf L (.Pass pos) .pas := by
  intro F ρ own σ H E D h
  rw [denS] at h
  exact ⟨tNext, fun X _ => ps_pass, h σ own H E Post.refl .refl⟩
theorem s_doc {x : Str} {j : Nat} {pos pos' : Pos} : SOk P w K mg base cf wf L (.Expr (.Constant (.str x) j pos) pos') .pas := by
  intro F ρ own σ H E D h
  rw [denS] at h
  exact ⟨tNext, fun X _ => ps_doc, h σ own H E Post.refl .refl⟩
theorem s_brk {pos : Pos} : SOk P w K mg base cf wf L (.Break pos) .brk := by
  intro F ρ own σ H E D h
  rw [denS] at h
  exact ⟨tBreak, fun X _ => ps_break, h σ own H E Post.refl .refl⟩
theorem s_cnt {pos : Pos} : SOk P w K mg base cf wf L (.Continue pos) .cnt := by
  intro F ρ own σ H E D h
  rw [denS] at h
  exact ⟨tCont, fun X _ => ps_continue, h σ own H E Post.refl .refl⟩
theorem s_retn {pos : Pos} : SOk P w K mg base cf wf L (.Return none pos) .retn := by
  intro F ρ own σ H E D h
  rw [denS] at h
  exact ⟨tRetN, fun X _ => ps_retN, h σ own H .non [] E.F0' ⟨rfl, rfl⟩ List.nodup_nil Post.refl .refl⟩
theorem s_ret {e : Expr} {ie : E} {vs : List Nat} {pos : Pos} (he : EOk P w K mg base cf L e ie) (hU : ∀ j, j ∈ ie.U → j ∈ vs) : SOk P w K mg base cf wf L (.Return (some e) pos) (.ret vs ie) := by
  intro F ρ own σ H E D h
  rw [denS] at h
  obtain ⟨d, ρ1, h1, h⟩ := nx_ok h
  refine ⟨tRet (We P w K mg base L e), fun X hX => ps_ret (We.pe hX), ?_⟩
  refine he F ρ own σ H E d ρ1 h1 _ fun v P1 own1 H1 r => ?_
  obtain ⟨own2, E2, r2, p2⟩ := settle1 r.env r.rep r.post hU
  exact h σ own2 H1 v P1 E2 r2 r.nd (p2.mono mem_l) .refl
theorem s_ex {e : Expr} {ie : E} {pos : Pos} (he : EOk P w K mg base cf L e ie) (hs : ∀ env, swapsWith e none pos.line env = pure false) : SOk P w K mg base cf wf L (.Expr e pos) (.ex ie) := by
  intro F ρ own σ H E D h
  rw [denS] at h
  obtain ⟨d, ρ1, h1, h⟩ := nx_ok h
  refine ⟨tDrop (We P w K mg base L e), fun X hX => ps_expr (We.pe hX) (hs _), ?_⟩
  refine he F ρ own σ H E d ρ1 h1 _ fun v P1 own1 H1 r => ?_
  exact h σ own1 H1 r.drop.1 r.drop.2 .refl
theorem s_asg {tg e : Expr} {t : T} {ie : E} {vs : List Nat} {pos : Pos} (ht : TgOk P w K mg base cf L tg t) (he : EOk P w K mg base cf L e ie) (hU : ∀ j, j ∈ ie.U → j ∈ vs) (hst : ∀ a p, tg ≠ .Starred a p)
    (hs : ∀ env : PySem.Env, env.scope = L.sc → swapsWithSole [tg] e pos.line env = pure false) (hw : ∀ env : PySem.Env, env.scope = L.sc → swappedStores [tg] e env = pure none) : SOk P w K mg base cf wf L (.Assign [tg] e pos) (.asg t vs ie) := by
  intro F ρ own σ H E D h
  rw [denS] at h
  obtain ⟨d, ρ1, h1, h⟩ := nx_ok h
  obtain ⟨u, ρ2, h2, h⟩ := nx_ok h
  refine ⟨tAsg (We P w K mg base L e) (Wg P w K mg base L tg), fun X hX => ps_asg (We.pe hX) (Wg.pg hX) (hs _ hX.sc) (hw _ hX.sc) (by rw [asg_each hst]; rfl), ?_⟩
  refine he F ρ own σ H E d ρ1 h1 _ fun v P1 own1 H1 r => ?_
  obtain ⟨own2, E2, r2, p2⟩ := settle1 r.env r.rep r.post hU
  refine ht F _ own2 σ H1 d v P1 E2 r2 r.nd (r.F_of E) ρ2 u h2 _ fun σ' own3 H3 E3 p3 s3 => ?_
  exact h σ' own3 H3 E3 (p2.thenT p3 mem_l fun j hj => List.mem_append_right _ (List.mem_append_right _ hj)) s3
theorem s_ite {c : Expr} {a b : List Stmt} {ic : E} {ia ib : Ss} {pos : Pos} (hc : TOk P w K mg base cf L c ic) (ha : SsOk P w K mg base cf wf L a ia) (hb : SsOk P w K mg base cf wf L b ib) : SOk P w K mg base cf wf L (.If c a b pos) (.ite ic ia ib) := by
  intro F ρ own σ H E D h
  rw [denS] at h
  obtain ⟨t, ρ1, h1, h⟩ := nx_ok h
  obtain ⟨d, ρ', h2, h3⟩ := R.bind_ok h1
  obtain ⟨h4, rfl⟩ := R.opt_ok h3
  refine ⟨tIfS (Wt P w K mg base L c) (Wsts P w K mg base L a) (Wsts P w K mg base L b), fun X hX => ps_if (Wt.pt hX) (Wsts.pss hX) (Wsts.pss hX), ?_⟩
  refine hc F ρ own σ H E d _ t h2 h4 _ fun own1 H1 E1 p1 => ?_
  cases t with
  | true =>
    rw [if_pos rfl] at h ⊢
    exact ha F _ own1 σ H1 E1 D (h.behind p1 (SameT.refl (A := [])) mem_l (fun j hj => List.mem_append_right _ (List.mem_append_left _ hj)) (fun _ z => nomatch z) mem_l)
  | false =>
    rw [if_neg Bool.false_ne_true] at h ⊢
    exact hb F _ own1 σ H1 E1 D (h.behind p1 (SameT.refl (A := [])) mem_l (fun j hj => List.mem_append_right _ (List.mem_append_right _ hj)) (fun _ z => nomatch z) mem_r)
theorem PassesOwn.none {M : Model} {A : Around} {env : PySem.Env} : PassesOwn M A env (fun _ _ => False) := by exact .never
theorem s_whl {c : Expr} {body : List Stmt} {ic : E} {ib : Ss} {pos : Pos} (hc : TOk P w K mg base cf L c ic) (hb : SsOk P w K mg base cf wf L body ib) : SOk P w K mg base cf wf L (.While c body [] pos) (.whl ic ib) := by
  intro F ρ own σ H E D h
  rw [denS] at h
  refine ⟨tWhile (Wt P w K mg base L c) (Wsts P w K mg base L body), fun X hX => PS.nox (ps_while PassesOwn.none (Wt.pt hX.nox) (Wsts.pss hX.nox)), ?_⟩
  refine ⟨fun m σ H => ∃ ρ own, EnvR K F ρ own σ H ∧ OutOk K F (ic.W ++ ib.W) ib.A own σ H D (whlL (denB cf ic) (fun ρ => denSs cf wf ib ρ) m ρ), ⟨wf, ρ, own, E, h⟩, ?_⟩
  rintro m σ H ⟨ρ, own, E, h⟩
  cases m with
  | zero => exact h.elim
  | succ m =>
    rw [whlL] at h
    obtain ⟨t, ρ1, h1, h⟩ := nx_ok h
    obtain ⟨d, ρ', h2, h3⟩ := R.bind_ok h1
    obtain ⟨h4, rfl⟩ := R.opt_ok h3
    refine hc F ρ own σ H E d _ t h2 h4 _ fun own1 H1 E1 p1 => ?_
    cases t with
    | false =>
      rw [if_neg Bool.false_ne_true] at h ⊢
      exact h σ own1 H1 E1 (p1.mono mem_l) .refl
    | true =>
      rw [if_pos rfl] at h ⊢
      have nox : ∀ j, j ∈ ([] : List Nat) → j ∈ ib.A := fun _ z => nomatch z
      refine ⟨fun σ H => ∃ ρ own, EnvR K F ρ own σ H ∧ OutOk K F (ic.W ++ ib.W) ib.A own σ H D (whlL (denB cf ic) (fun ρ => denSs cf wf ib ρ) m ρ), fun σ' H' n => ⟨m, Nat.lt_succ_self _, n⟩, ?_⟩
      refine hb F _ own1 σ H1 E1 _ ?_
      cases e : denSs cf wf ib ρ1 with
      | nx ρ2 =>
        rw [e] at h
        exact fun σ' own' H' E' q t => ⟨ρ2, own', E', OutOk.behind h ((p1.trans q).mono fun j hj => hj) t (fun _ z => z) (fun _ z => z) (fun _ z => z) fun _ z => z⟩
      | ct ρ2 =>
        rw [e] at h
        exact fun σ' own' H' E' q t => ⟨ρ2, own', E', OutOk.behind h ((p1.trans q).mono fun j hj => hj) t (fun _ z => z) (fun _ z => z) (fun _ z => z) fun _ z => z⟩
      | bk ρ2 =>
        rw [e] at h
        exact fun σ' own' H' E' q t => h σ' own' H' E' (p1.trans q) t
      | rt d2 ρ2 =>
        rw [e] at h
        exact fun σ' own' H' v P1 E' r n q t => h σ' own' H' v P1 E' r n (p1.trans q) t
      | bad => rw [e] at h; exact h.elim
end
end Mn

/-! Mn U: for, op=, several names at once. -/
namespace Mn
open PySem L2
section
variable {P : Program} {w : World} {K : PySem.W.Frag} {mg : Str → Option Value} {base : Heap} {cf : Nat → List D → Option (D × List D)} {wf : Nat} {L : Lx}
theorem SrcPost {J : It} {xs : List D} {G : AP → AP → Hp → Prop} (S : Src K J xs G) {F : AP} {U W : List Nat} {own own1 : Own} {H H1 : Hp} {B : Prop} {ρ : Env} {σ : L2.St} (E : EnvR K F ρ own σ H) (h : G (AV F U own []) (fun a => B ∧ AV F [] own [] a) H) (p : Post W own H [] own1 H1) (hU : ∀ j, j ∈ U → j ∉ W) :
    G (AV F U own1 []) (fun a => B ∧ AV F [] own1 [] a) H1 := by
  have k1 : ∀ b o, H b = some o → (AV F U own [] b ∨ (B ∧ AV F [] own [] b) ∨ Still o) → H1 b = some o := fun b o e z => p.keep b o e fun j hj y => by
    rcases z with z | z | z
    · exact z.2.2 j (fun q => hU j q hj) y
    · exact z.2.2.2 j List.not_mem_nil y
    · obtain ⟨o', e', n⟩ := E.own_there y
      rw [e] at e'; cases e'
      exact n z
  have h1 := S.stay h k1
  have back : ∀ a o, H1 a = some o → H a = none → True := fun _ _ _ _ => trivial
  -- nodes made anew aren't asked for
  have h2 : G (fun a => H a ≠ none ∧ AV F U own [] a) (fun a => H a ≠ none ∧ (B ∧ AV F [] own [] a)) H := S.mono h (fun a o e z => ⟨by rw [e]; simp, z⟩) fun a o e z => ⟨by rw [e]; simp, z⟩
  have h3 := S.stay h2 (H' := H1) fun b o e z => k1 b o e (z.imp (·.2) fun z => z.imp (·.2) id)
  refine S.mono h3 (fun a o e z => ⟨z.2.1, z.2.2.1, fun j hj y => ?_⟩) fun a o e z => ⟨z.2.1, z.2.2.1, z.2.2.2.1, fun j _ y => ?_⟩
  · rcases p.frO j a y with y | ⟨_, y | ⟨i, hi, y⟩⟩
    · exact z.2.2.2 j hj y
    · exact z.1 y
    · exact z.2.2.2 i (fun q => hU i q hi) y
  · rcases p.frO j a y with y | ⟨_, y | ⟨i, hi, y⟩⟩
    · exact z.2.2.2.2 j List.not_mem_nil y
    · exact z.1 y
    · exact z.2.2.2.2 i List.not_mem_nil y
theorem PostT.post {W : List Nat} {own own1 : Own} {H H1 : Hp} (p : PostT W own H [] own1 H1) : Post W own H [] own1 H1 :=
  ⟨fun b o e n => p.keep b o e (fun z => nomatch z) n, p.there, fun _ z => (nomatch z), fun j b hb => (p.frO j b hb).imp id fun ⟨h1, z⟩ => ⟨h1, z.imp id fun z => z.elim (fun z => (nomatch z)) id⟩⟩
theorem Post.extend {own : Own} {H H1 : Hp} (x : Ext H H1) : Post [] own H [] own H1 := ⟨fun b o e _ => x b o e, fun b e => by
  cases q : H b with
  | none => exact absurd q e
  | some o => rw [x b o q]; simp, fun _ z => (nomatch z), fun _ _ z => .inl z⟩
theorem s_for {tg it : Expr} {body : List Stmt} {t : T} {ii : I} {ib : Ss} {vs : List Nat} {q : Bool} {pos : Pos} (hi : IOk P w K mg base cf L tg it ii) (ht : TgOk P w K mg base cf L tg t) (hb : SsOk P w K mg base cf wf L body ib) (hU : ∀ j, j ∈ ii.U → j ∈ vs)
    (hq : q = true → ∀ j, j ∈ ii.U → j ∉ t.W ++ ib.W) (hs : ∀ env x, foldedSetIterable it env x = pure x) : SOk P w K mg base cf wf L (.For tg it body [] pos) (.for_ t vs q ii ib) := by
  intro F ρ own σ H E D h
  rw [denS] at h
  obtain ⟨xs, ρ1, h1, h⟩ := nx_ok h
  refine ⟨tFor (Wi P w K mg base L tg it) (Wg P w K mg base L tg) (Wsts P w K mg base L body), fun X hX => PS.nox (ps_for PassesOwn.none hX.calm (Wi.pi hX.nox) (Wg.pg hX.nox) (Wsts.pss hX.nox) (hs _)), ?_⟩
  refine hi F ρ own σ H E xs ρ1 h1 _ fun J G own1 H1 S E1 g1 p1 => ?_
  -- what is kept of the source
  obtain ⟨own2, U, B, E2, g2, p2, hdis⟩ : ∃ (own2 : Own) (U : List Nat) (B : Prop), EnvR K F (if (q && nfms xs) = true then ρ1 else frzS vs ρ1) own2 σ H1 ∧ G (AV F U own2 []) (fun a => B ∧ AV F [] own2 [] a) H1 ∧ Post ii.W own H [] own2 H1 ∧ ∀ j, j ∈ U → j ∉ t.W ++ ib.W := by
    by_cases hc : (q && nfms xs) = true
    · have hc' := (Bool.and_eq_true _ _).mp hc
      rw [if_pos hc]
      exact ⟨own1, ii.U, False, E1, S.nf g1 hc'.2, p1, hq hc'.1⟩
    · rw [if_neg hc]
      refine ⟨offS vs own1, [], True, E1.frzS vs, ?_, p1.off vs, fun _ z => nomatch z⟩
      have k : ∀ a, AV F ii.U own1 [] a → AV F [] (offS vs own1) [] a := fun a z => ⟨z.1, z.2.1, fun j _ hj => z.2.2 j (fun y => (offS_mem hj).1 (hU j y)) (offS_mem hj).2⟩
      exact S.mono g1 (fun a _ _ => k a) fun a _ _ z => ⟨trivial, k a z⟩
  clear g1
  generalize hρ2 : (if (q && nfms xs) = true then ρ1 else frzS vs ρ1) = ρ2 at h E2
  let f : Mn.D → Env → O := fun x ρ => (denT cf t x ρ).nx fun _ ρ => denSs cf wf ib ρ
  let Wl := t.W ++ ib.W
  let Al := t.A ++ ib.A
  have h0 : OutOk K F Wl Al own2 σ H1 D (forL f xs ρ2) := OutOk.behind h p2 (SameT.refl (A := [])) mem_l (fun j hj => List.mem_append_right _ (List.mem_append_right _ hj)) (fun _ z => nomatch z) fun _ z => z
  let inv : Nat → L2.St → Hp → Prop := fun i σ' H' => ∃ ρ' own', EnvR K F ρ' own' σ' H' ∧ G (AV F U own' []) (fun a => B ∧ AV F [] own' [] a) H' ∧ OutOk K F Wl Al own' σ' H' D (forL f (xs.drop i) ρ')
  refine ⟨fun i m σ' H' => i ≤ xs.length ∧ m = xs.length - i ∧ inv i σ' H', ⟨xs.length, Nat.zero_le _, rfl, ρ2, own2, E2, g2, by rw [List.drop_zero]; exact h0⟩, ?_⟩
  rintro i m σ' H' ⟨hil, rfl, ρ', own', E', g', o'⟩
  by_cases hlt : i < xs.length
  · refine .inr ⟨S.go g' hlt, fun σ2 H2 => inv (i + 1) σ2 H2, fun σ2 H2 n => ⟨xs.length - (i + 1), by omega, by omega, rfl, n⟩, fun x H2 y => ?_⟩
    obtain ⟨d, hd, rx, ex⟩ := S.yld g' hlt y
    have ed : xs.drop i = d :: xs.drop (i + 1) := by
      rw [List.drop_eq_getElem_cons hlt]
      rw [List.getElem?_eq_getElem hlt] at hd
      rw [Option.some.inj hd]
    rw [ed, forL] at o'
    have px : Post [] own' H' [] own' H2 := Post.extend ex
    have E2' : EnvR K F ρ' own' σ' H2 := (E'.ext (P := []) ex (fun _ z => nomatch z) fun _ z => nomatch z).F0
    have rx' : Rp K H2 (AV F [] own' []) d x [] := rx.mono (fun _ _ e _ => e) fun a _ _ z => z.2
    cases e1 : denT cf t d ρ' with
    | bad =>
      have : f d ρ' = .bad := by show (denT cf t d ρ').nx _ = _; rw [e1]; rfl
      rw [this] at o'
      exact o'.elim
    | ok u ρa =>
      have ef : f d ρ' = denSs cf wf ib ρa := by show (denT cf t d ρ').nx _ = _; rw [e1]; rfl
      rw [ef] at o'
      refine ht F ρ' own' σ' H2 d x [] E2'.F0' rx' List.nodup_nil (fun _ z => nomatch z) ρa u e1 _ fun σ3 own3 H3 E3 p3 s3 => ?_
      have p13 : Post t.W own' H' [] own3 H3 := (px.trans p3.post).mono fun j hj => hj
      refine hb F ρa own3 σ3 H3 E3 _ ?_
      -- the turn's end
      have fin : ∀ {ρ4 : Env} {σ4 : L2.St} {own4 : Own} {H4 : Hp}, EnvR K F ρ4 own4 σ4 H4 → Post ib.W own3 H3 [] own4 H4 → SameT ib.A σ3 σ4 → OutOk K F Wl Al own' σ' H' D (forL f (xs.drop (i + 1)) ρ4) → inv (i + 1) σ4 H4 := fun {ρ4 σ4 own4 H4} E4 p4 s4 o4 => by
        have p14 : Post Wl own' H' [] own4 H4 := p13.trans p4
        exact ⟨ρ4, own4, E4, SrcPost S E' g' p14 hdis, o4.behind p14 (s3.trans s4 mem_l mem_r) (fun _ z => z) (fun _ z => z) (fun _ z => z) fun _ z => z⟩
      cases e2 : denSs cf wf ib ρa with
      | nx ρ4 => rw [e2] at o'; exact fun σ4 own4 H4 E4 p4 s4 => fin E4 p4 s4 o'
      | ct ρ4 => rw [e2] at o'; exact fun σ4 own4 H4 E4 p4 s4 => fin E4 p4 s4 o'
      | bk ρ4 => rw [e2] at o'; exact fun σ4 own4 H4 E4 p4 s4 => o' σ4 own4 H4 E4 (p13.trans p4) (s3.trans s4 mem_l mem_r)
      | rt d4 ρ4 => rw [e2] at o'; exact fun σ4 own4 H4 v4 P4 E4 r4 n4 p4 s4 => o' σ4 own4 H4 v4 P4 E4 r4 n4 (p13.trans p4) (s3.trans s4 mem_l mem_r)
      | bad => rw [e2] at o'; exact o'.elim
  · have e : i = xs.length := by omega
    subst e
    rw [List.drop_length, forL] at o'
    exact .inl ⟨S.stop g' (Nat.le_refl _), o' σ' own' H' E' (Post.refl.mono fun _ z => nomatch z) .refl⟩
/-! name op= value -/
theorem augD_ok {op : BOp} {x y d : D} {v1 v2 : V} {H : Hp} {A : AP} {Q : VK} (r1 : Rp K H A x v1 []) (r2 : Rp K H A y v2 []) (h : augD op x y = some d) (q : ∀ v, Rp K H A d v [] → Q v H) : Wo P w K mg base L (inplaceOp op.py) v1 v2 H Q := by
  unfold augD at h
  split at h
  · cases h
    obtain ⟨rfl, _⟩ := r1
    obtain ⟨rfl, _⟩ := r2
    exact ⟨_, fun X _ => iop_add, _, _, rfl, rfl, q _ ⟨rfl, rfl⟩⟩
  · obtain ⟨hc, e⟩ := opt_if h
    subst e
    obtain ⟨rfl, _, k1⟩ := r1
    obtain ⟨rfl, _, k2⟩ := r2
    exact ⟨_, fun X _ => iop_add_str, _, _, rfl, rfl, hc, q _ ⟨rfl, rfl, strOk_append k1 k2⟩⟩
  · cases h
    obtain ⟨rfl, _⟩ := r1
    obtain ⟨rfl, _⟩ := r2
    exact ⟨_, fun X _ => iop_sub, _, _, rfl, rfl, q _ ⟨rfl, rfl⟩⟩
  · obtain ⟨hc, e⟩ := opt_if h
    subst e
    obtain ⟨rfl, _⟩ := r1
    obtain ⟨rfl, _⟩ := r2
    exact ⟨_, fun X _ => iop_mul, _, _, rfl, rfl, sm64_of hc, q _ ⟨rfl, rfl⟩⟩
  · obtain ⟨hc, e⟩ := opt_if h
    subst e
    obtain ⟨rfl, _⟩ := r1
    obtain ⟨rfl, _⟩ := r2
    exact ⟨_, fun X _ => iop_fdiv, _, _, rfl, rfl, hc, q _ ⟨rfl, rfl⟩⟩
  · obtain ⟨hc, e⟩ := opt_if h
    subst e
    obtain ⟨rfl, _⟩ := r1
    obtain ⟨rfl, _⟩ := r2
    exact ⟨_, fun X _ => iop_mod, _, _, rfl, rfl, hc, q _ ⟨rfl, rfl⟩⟩
  · obtain ⟨hc, e⟩ := opt_if h
    subst e
    obtain ⟨rfl, _⟩ := r1
    obtain ⟨rfl, _⟩ := r2
    exact ⟨_, fun X _ => iop_shr, _, _, rfl, rfl, hc, q _ ⟨rfl, rfl⟩⟩
  · cases h
    obtain ⟨rfl, _⟩ := r1
    obtain ⟨rfl, _⟩ := r2
    exact ⟨_, fun X _ => iop_and, _, _, rfl, rfl, q _ ⟨rfl, rfl⟩⟩
  · cases h
    obtain ⟨rfl, _⟩ := r1
    obtain ⟨rfl, _⟩ := r2
    exact ⟨_, fun X _ => iop_or, _, _, rfl, rfl, q _ ⟨rfl, rfl⟩⟩
  · cases h
theorem s_aug {i : Nat} {x : Str} {e : Expr} {op : BOp} {ie : E} {p pos : Pos} (hnd : L.N.Nodup) (hN : L.N[i]? = some x) (hl : Loc L.sc x) (hf : L.fn x = true ∨ L.sc.names.lookup x = some .local) (he : EOk P w K mg base cf L e ie) :
    SOk P w K mg base cf wf L (.AugAssign (.Name x p) op.py e pos) (.aug i op ie) := by
  intro F ρ own σ H E D h
  rw [denS] at h
  cases hx : getS ρ i with
  | none => rw [hx] at h; exact h.elim
  | some dx =>
    rw [hx] at h
    have h : OutOk K F (S.aug i op ie).W (S.aug i op ie).A own σ H D (if flat dx = true then (den cf ie ρ).nx fun y ρ1 => if flat y = true then (R.opt (augD op dx y) ρ1).nx fun z ρ2 => (setS ρ2 i z).nx fun _ ρ3 => .nx ρ3 else .bad else .bad) := h
    by_cases fx : flat dx = true
    · rw [if_pos fx] at h
      obtain ⟨y, ρ1, h1, h⟩ := nx_ok h
      by_cases fy : flat y = true
      · rw [if_pos fy] at h
        obtain ⟨z, ρ2, h2, h7⟩ := nx_ok h
        obtain ⟨h4, h5⟩ := R.opt_ok h2
        subst h5
        obtain ⟨u, ρ3, h3, h8⟩ := nx_ok h7
        obtain ⟨hi, h6⟩ := setS_ok h3
        subst h6
        obtain ⟨v, e1, r⟩ := E.rep i dx (getS_some hx)
        refine ⟨tAug i (We P w K mg base L e) (Wo P w K mg base L (inplaceOp op.py)), fun X hX => ps_aug (by rw [hX.N]; exact hnd) (by rw [hX.N]; exact hN) (by rw [hX.sc]; exact hl) (We.pe hX) (Wo.op hX) (by rw [hX.sc, hX.fn]; exact hf), v, e1, ?_⟩
        refine he F ρ own σ H E y _ h1 _ fun vy P1 own1 H1 r1 => ?_
        obtain ⟨_, r1'⟩ := r1.rep.fl (H' := H1) (A' := fun _ => False) fy
        obtain ⟨_, r0'⟩ := r.fl (H' := H1) (A' := fun _ => False) fx
        obtain ⟨E1, p1⟩ := r1.drop
        refine augD_ok r0' r1' h4 fun vz rz => ?_
        exact h8 _ _ H1 (E1.F0'.sto (rz.mono (fun _ _ e _ => e) fun _ _ _ z => z.elim) List.nodup_nil (fun _ z => nomatch z) hi) ((Post.thenT p1 PostT.sto mem_l mem_r).mono fun j hj => (List.mem_append.mp hj).elim (fun z => List.mem_cons_of_mem _ z) fun z => by rw [List.mem_singleton.mp z]; exact List.mem_cons_self)
          ⟨List.length_set, fun j hj => List.getElem?_set_ne fun e => hj (by rw [← e]; exact List.mem_singleton.mpr rfl)⟩
      · rw [if_neg fy] at h; exact h.elim
    · rw [if_neg fx] at h; exact h.elim
/-! several names at once -/
theorem par_core {es : List Expr} {ies : Es} {is vs : List Nat} (he : EsOk P w K mg base cf L es ies) (hi : ies.ios = []) (hU : ∀ j, j ∈ ies.U → j ∈ vs) {F : AP} {ρ : Env} {own : Own} {σ : L2.St} {H : Hp} (E : EnvR K F ρ own σ H) {D : Ends}
    (h : OutOk K F (S.par is vs ies).W (S.par is vs ies).A own σ H D (denS cf wf (.par is vs ies) ρ)) (Q : List V → Hp → Prop) (q : ∀ us H1, us.length = is.length → D.nx (stoL σ is us) H1 → Q us H1) : Wa P w K mg base L es σ H Q := by
  rw [denS] at h
  obtain ⟨xs, ρ1, h1, h⟩ := nx_ok h
  obtain ⟨u, ρ2, h2, h⟩ := nx_ok h
  refine he F ρ own σ H E xs ρ1 h1 _ fun us P1 own1 H1 r => ?_
  obtain ⟨own2, E2, r2, p2⟩ := settleN r.env (r.rep.rps hi) r.post hU
  obtain ⟨own3, E3, p3, hl⟩ := E2.stos r2 r.nd (r.F_of E) h2
  exact q us H1 hl (h _ own3 H1 E3 (p2.thenT p3 mem_l fun j hj => List.mem_append_right _ (List.mem_append_right _ hj)) stoL_same)
theorem s_par2 {i j : Nat} {x y : Str} {a b : Expr} {ies : Es} {vs : List Nat} {px py pt pt2 pos : Pos} {kt k2 : Nat} (hnd : L.N.Nodup) (hi : L.N[i]? = some x) (hj : L.N[j]? = some y) (hij : i ≠ j) (hx : L.sc.names.lookup x = some .local) (hy : L.sc.names.lookup y = some .local)
    (he : EsOk P w K mg base cf L [a, b] ies) (hio : ies.ios = []) (hU : ∀ j, j ∈ ies.U → j ∈ vs) (hw : ∀ env : PySem.Env, env.scope = L.sc → swappedStores [.Tuple [.Name x px, .Name y py] kt pt] (.Tuple [a, b] k2 pt2) env = pure (some [x, y])) :
    SOk P w K mg base cf wf L (.Assign [.Tuple [.Name x px, .Name y py] kt pt] (.Tuple [a, b] k2 pt2) pos) (.par [i, j] vs ies) := by
  intro F ρ own σ H E D h
  refine ⟨tPar i j (Wa P w K mg base L [a, b]), fun X hX => ps_par hX.calm (by rw [hX.N]; exact hnd) (by rw [hX.N]; exact hi) (by rw [hX.N]; exact hj) hij (by rw [hX.sc]; exact hx) (by rw [hX.sc]; exact hy) (Wa.pa hX) (hw _ hX.sc), ?_⟩
  refine par_core he hio hU E h _ fun us H1 hl hn => ?_
  match us, hl, hn with
  | [v, u], _, hn => exact ⟨v, u, rfl, hn⟩
theorem s_par3 {i j l : Nat} {x y z : Str} {a b c : Expr} {ies : Es} {vs : List Nat} {px py pz pt pt2 pos : Pos} {kt k2 : Nat} (hnd : L.N.Nodup) (hi : L.N[i]? = some x) (hj : L.N[j]? = some y) (hl : L.N[l]? = some z) (hij : i ≠ j) (hil : i ≠ l) (hjl : j ≠ l)
    (hx : L.sc.names.lookup x = some .local) (hy : L.sc.names.lookup y = some .local) (hz : L.sc.names.lookup z = some .local)
    (he : EsOk P w K mg base cf L [a, b, c] ies) (hio : ies.ios = []) (hU : ∀ j, j ∈ ies.U → j ∈ vs) (hw : ∀ env : PySem.Env, env.scope = L.sc → swappedStores [.Tuple [.Name x px, .Name y py, .Name z pz] kt pt] (.Tuple [a, b, c] k2 pt2) env = pure (some [x, y, z])) :
    SOk P w K mg base cf wf L (.Assign [.Tuple [.Name x px, .Name y py, .Name z pz] kt pt] (.Tuple [a, b, c] k2 pt2) pos) (.par [i, j, l] vs ies) := by
  intro F ρ own σ H E D h
  refine ⟨tPar3 i j l (Wa P w K mg base L [a, b, c]), fun X hX => ps_par3 hX.calm (by rw [hX.N]; exact hnd) (by rw [hX.N]; exact hi) (by rw [hX.N]; exact hj) (by rw [hX.N]; exact hl) hij hil hjl (by rw [hX.sc]; exact hx) (by rw [hX.sc]; exact hy) (by rw [hX.sc]; exact hz) (Wa.pa hX) (hw _ hX.sc), ?_⟩
  refine par_core he hio hU E h _ fun us H1 hl hn => ?_
  match us, hl, hn with
  | [v, u, t], _, hn => exact ⟨v, u, t, rfl, hn⟩
end
end Mn

/-! Mn V: list comprehensions. -/
namespace Mn
open PySem L2
/-- the names of a comprehension's block as they stand when it runs -/
def relS (sc scope : Scope) : Scope := { scope with names := scope.names.map fun (n, k) => if (k == NameKind.free && sc.kind == .function && sc.names.lookup n == some .cell) then (n, NameKind.cell) else (n, k) }
def Lx.blk (L : Lx) (scope : Scope) : Lx := ⟨L.N, relS L.sc scope, fun x => scope.names.lookup x == some .cell, L.k⟩
section
variable {P : Program} {w : World} {K : PySem.W.Frag} {mg : Str → Option Value} {base : Heap} {cf : Nat → List D → Option (D × List D)} {L : Lx}
theorem InX.blk {X : Cx} {scope : Scope} (h : InX P w K mg base L X) (s : Shared) (H : Hp) (C : Addr) (cl : List (Str × Addr)) (fp : List Addr) : InX P w K mg base (L.blk scope) (X.blk s H scope (compEnvC scope cl C X.env) fp) :=
  ⟨h.prog, h.w, h.K, h.mg, h.base, h.N, by show relabel scope X.env = relS L.sc scope; rw [← h.sc]; rfl, rfl, h.calm, h.room, h.gd⟩
section
variable {F : AP} {ρ ρ1 : Env} {own own1 : Own} {σ : L2.St} {H H1 : Hp}
theorem wipe_no {σ : L2.St} {j : Nat} : ∀ {vs : List Nat}, j ∉ vs → (wipe σ vs)[j]? = σ[j]?
  | [], _ => rfl
  | v :: vs, h => by
    unfold wipe
    rw [List.getElem?_set_ne fun e => h (by rw [← e]; exact List.mem_cons_self)]
    exact wipe_no fun z => h (List.mem_cons_of_mem _ z)
theorem wipe_in {σ : L2.St} {j : Nat} : ∀ {vs : List Nat}, j ∈ vs → j < σ.length → (wipe σ vs)[j]? = some none
  | v :: vs, h, hl => by
    unfold wipe
    by_cases e : v = j
    · subst e
      exact List.getElem?_set_self (by rw [wipe_length]; exact hl)
    · rw [List.getElem?_set_ne e]
      exact wipe_in ((List.mem_cons.mp h).resolve_left fun z => e z.symm) hl
theorem wipe_eq {σ σ2 : L2.St} {vs : List Nat} (h : SameT vs (wipe σ vs) σ2) : wipe σ2 vs = wipe σ vs := by
  refine List.ext_getElem? fun j => ?_
  by_cases hj : j ∈ vs
  · by_cases hl : j < σ.length
    · rw [wipe_in hj hl, wipe_in hj (by rw [h.1, wipe_length]; exact hl)]
    · rw [List.getElem?_eq_none (by rw [wipe_length, h.1, wipe_length]; omega), List.getElem?_eq_none (by rw [wipe_length]; omega)]
  · rw [wipe_no hj, h.2 j hj]
theorem wipeS_no {ρ : Env} {j : Nat} : ∀ {vs : List Nat}, j ∉ vs → (wipeS ρ vs)[j]? = ρ[j]?
  | [], _ => rfl
  | v :: vs, h => by
    unfold wipeS
    rw [List.getElem?_set_ne fun e => h (by rw [← e]; exact List.mem_cons_self)]
    exact wipeS_no fun z => h (List.mem_cons_of_mem _ z)
theorem wipeS_len {ρ : Env} : ∀ {vs : List Nat}, (wipeS ρ vs).length = ρ.length
  | [] => rfl
  | v :: vs => by unfold wipeS; rw [List.length_set, wipeS_len]
theorem wipeS_in {ρ : Env} {j : Nat} {d : D} : ∀ {vs : List Nat}, j ∈ vs → (wipeS ρ vs)[j]? ≠ some (some d)
  | v :: vs, h => by
    unfold wipeS
    by_cases e : v = j
    · subst e
      by_cases hl : v < (wipeS ρ vs).length
      · rw [List.getElem?_set_self hl]; intro z; cases z
      · rw [List.getElem?_eq_none (by rw [List.length_set]; omega)]; intro z; cases z
    · rw [List.getElem?_set_ne e]
      exact wipeS_in ((List.mem_cons.mp h).resolve_left fun z => e z.symm)
theorem EnvR.wiped (E : EnvR K F ρ own σ H) (vs : List Nat) : EnvR K F (wipeS ρ vs) (offS vs own) (wipe σ vs) H := by
  have A1 : ∀ a, AE F own a → AE F (offS vs own) a := fun a z => ⟨z.1, fun i hi => z.2 i (offS_mem hi).2⟩
  refine ⟨by rw [wipeS_len, wipe_length]; exact E.len, fun j d e => ?_, fun j hn => ?_, fun j => ?_, fun x y c hxy hx hy => E.dj x y c hxy (offS_mem hx).2 (offS_mem hy).2, fun j c hc => E.fr j c (offS_mem hc).2, E.fa⟩
  · by_cases hj : j ∈ vs
    · exact absurd e (wipeS_in hj)
    · rw [wipeS_no hj] at e
      obtain ⟨v, h1, r⟩ := E.rep j d e
      refine ⟨v, by rw [wipe_no hj]; exact h1, ?_⟩
      rw [offS_no hj]
      exact r.mono (fun _ _ e _ => e) fun a _ _ => A1 a
  · by_cases hj : j ∈ vs
    · unfold offS; rw [if_pos hj]
    · rw [offS_no hj]
      exact E.non j fun d e => hn d (by rw [wipeS_no hj]; exact e)
  · by_cases hj : j ∈ vs
    · unfold offS; rw [if_pos hj]; exact List.nodup_nil
    · rw [offS_no hj]; exact E.nd j
theorem EnvR.but {a : Addr} (E : EnvR K F ρ own σ H) (b : But a H H1) (ha : F a) (still : ∀ o, H a = some o → ¬ Still o) : EnvR K F ρ own σ H1 :=
  ⟨E.len, fun j d e => by
    obtain ⟨v, h1, r⟩ := E.rep j d e
    exact ⟨v, h1, r.but b (fun z => E.fr j a z ha) (fun z => z.1 ha) still⟩, E.non, E.nd, E.dj, E.fr, fun c hc => b.2 c (E.fa c hc)⟩
theorem Post.butP {W : List Nat} {P1 : List Addr} {own' : Own} {H' H'' : Hp} {a : Addr} (p : Post W own H P1 own' H') (b : But a H' H'') (ha : H a = none) : Post W own H P1 own' H'' :=
  ⟨fun c o e n => b.1 c o (p.keep c o e n) fun z => (by subst z; rw [ha] at e; cases e), fun c e => b.2 c (p.there c e), p.frP, p.frO⟩
/-- what is walked, over an evaluation that gives new nodes -/
theorem SrcPostP {J : It} {xs : List D} {G : AP → AP → Hp → Prop} (S : Src K J xs G) {U W : List Nat} {B : Prop} {P1 : List Addr} (E : EnvR K F ρ own σ H) (h : G (AV F U own []) (fun a => B ∧ AV F [] own [] a) H) (p : Post W own H P1 own1 H1) (hU : ∀ j, j ∈ U → j ∉ W) :
    G (AV (FP F P1) U own1 []) (fun a => B ∧ AV (FP F P1) [] own1 [] a) H1 := by
  have h3 := SrcPost S E h (p.drop fun _ z => nomatch z) hU
  -- only nodes that stood before are asked for
  have k1 : ∀ b o, H b = some o → (AV F U own [] b ∨ (B ∧ AV F [] own [] b) ∨ Still o) → H1 b = some o := fun b o e z => p.keep b o e fun j hj y => by
    rcases z with z | z | z
    · exact z.2.2 j (fun q => hU j q hj) y
    · exact z.2.2.2 j List.not_mem_nil y
    · obtain ⟨o', e', n⟩ := E.own_there y
      rw [e] at e'; cases e'
      exact n z
  have h2 : G (fun a => H a ≠ none ∧ AV F U own [] a) (fun a => H a ≠ none ∧ (B ∧ AV F [] own [] a)) H := S.mono h (fun a o e z => ⟨by rw [e]; simp, z⟩) fun a o e z => ⟨by rw [e]; simp, z⟩
  have h4 := S.stay h2 (H' := H1) fun b o e z => k1 b o e (z.imp (·.2) fun z => z.imp (·.2) id)
  refine S.mono h4 (fun a o e z => ⟨fun y => y.elim z.2.1 fun y => ?_, z.2.2.1, fun j hj y => ?_⟩) fun a o e z => ⟨z.2.1, fun y => y.elim z.2.2.1 fun y => ?_, z.2.2.2.1, fun j _ y => ?_⟩
  · rcases p.frP a y with y | ⟨j, hj, y⟩
    · exact z.1 y
    · exact z.2.2.2 j (fun q => hU j q hj) y
  · rcases p.frO j a y with y | ⟨_, y | ⟨i, hi, y⟩⟩
    · exact z.2.2.2 j hj y
    · exact z.1 y
    · exact z.2.2.2 i (fun q => hU i q hi) y
  · rcases p.frP a y with y | ⟨j, hj, y⟩
    · exact z.1 y
    · exact z.2.2.2.2 j List.not_mem_nil y
  · rcases p.frO j a y with y | ⟨_, y | ⟨i, hi, y⟩⟩
    · exact z.2.2.2.2 j List.not_mem_nil y
    · exact z.1 y
    · exact z.2.2.2.2 i List.not_mem_nil y
end
end
section
variable (P : Program) (w : World) (K : PySem.W.Frag) (mg : Str → Option Value) (base : Heap) (cf : Nat → List D → Option (D × List D))
def Wts (L : Lx) (ifs : List Expr) : TT := fun σ H Q => ∃ t : TT, (∀ X, InX P w K mg base L X → PTs X ifs t) ∧ t σ H Q
def IfOk (L : Lx) (ifs : List Expr) (ic : E1) : Prop := ∀ (F : AP) (ρ : Env) (own : Own) (σ : L2.St) (H : Hp), EnvR K F ρ own σ H → ∀ (ρ' : Env) (b : Bool), den1 cf ic ρ = .ok b ρ' → ∀ Q : Bool → Hp → Prop,
  (∀ own' H', EnvR K F ρ' own' σ H' → Post ic.W own H [] own' H' → Q b H') → Wts P w K mg base L ifs σ H Q
end
section
variable {P : Program} {w : World} {K : PySem.W.Frag} {mg : Str → Option Value} {base : Heap} {cf : Nat → List D → Option (D × List D)} {L : Lx}
theorem Wts.pts {X : Cx} {ifs : List Expr} (h : InX P w K mg base L X) : PTs X ifs (Wts P w K mg base L ifs) := ⟨fun pins s σ H Q I ⟨_, p, q⟩ => (p X h).run pins s σ H Q I q⟩
theorem if_no : IfOk P w K mg base cf L [] .no := by
  intro F ρ own σ H E ρ' b h Q q
  rw [den1] at h
  cases h
  exact ⟨tYes, fun X _ => pts_nil, q own H E Post.refl⟩
theorem if_yes {c : Expr} {ic : E} (hc : TOk P w K mg base cf L c ic) : IfOk P w K mg base cf L [c] (.yes ic) := by
  intro F ρ own σ H E ρ' b h Q q
  rw [den1] at h
  obtain ⟨d, ρ1, h1, h2⟩ := R.bind_ok h
  obtain ⟨h3, h4⟩ := R.opt_ok h2
  subst h4
  exact ⟨Wt P w K mg base L c, fun X hX => pts_one (Wt.pt hX), hc F ρ own σ H E d _ b h1 h3 Q q⟩
theorem restS_in {ρ0 : Env} {j : Nat} {d : D} : ∀ {vs : List Nat} {ρ : Env}, j ∈ vs → (restS ρ0 vs ρ)[j]? = some (some d) → getS ρ0 j = some d ∧ flat d = true
  | v :: vs, ρ, h, e => by
    unfold restS at e
    by_cases hv : v = j
    · subst hv
      by_cases hl : v < (restS ρ0 vs ρ).length
      · rw [List.getElem?_set_self hl] at e
        unfold keptS at e
        cases g : getS ρ0 v with
        | none => rw [g] at e; cases e
        | some d0 =>
          rw [g] at e
          by_cases hf : flat d0 = true
          · simp only [hf, if_true] at e
            cases e
            exact ⟨rfl, hf⟩
          · simp only [hf] at e
            cases e
      · rw [List.getElem?_eq_none (by rw [List.length_set]; omega)] at e; cases e
    · rw [List.getElem?_set_ne hv] at e
      exact restS_in ((List.mem_cons.mp h).resolve_left fun z => hv z.symm) e
theorem lc_body {t : T} {ifs : E1} {elt : E} {x : D} {ρ ρ' : Env} {o : Option D} (h : (denT cf t x ρ).bind (fun _ ρ => (den1 cf ifs ρ).bind fun b ρ => if b = true then (den cf elt ρ).bind fun y ρ => .ok (some y) ρ else .ok none ρ) = .ok o ρ') :
    ∃ u ρ1 b ρ2, denT cf t x ρ = .ok u ρ1 ∧ den1 cf ifs ρ1 = .ok b ρ2 ∧ ((b = true ∧ ∃ y, den cf elt ρ2 = .ok y ρ' ∧ o = some y) ∨ (b = false ∧ ρ' = ρ2 ∧ o = none)) := by
  obtain ⟨u, ρ1, h1, h⟩ := R.bind_ok h
  obtain ⟨b, ρ2, h2, h⟩ := R.bind_ok h
  refine ⟨u, ρ1, b, ρ2, h1, h2, ?_⟩
  cases b with
  | true =>
    rw [if_pos rfl] at h
    obtain ⟨y, ρ3, h3, h⟩ := R.bind_ok h
    cases h
    exact .inl ⟨rfl, y, h3, rfl⟩
  | false =>
    rw [if_neg Bool.false_ne_true] at h
    cases h
    exact .inr ⟨rfl, rfl, rfl⟩
theorem lc_core {elt tg iter : Expr} {ifs : List Expr} {scope : Scope} {own : List Nat} {q q2 : Bool} {t : T} {vs : List Nat} {ii : I} {ic : E1} {ie : E} (hi : IOk P w K mg base cf L tg iter ii) (ht : TgOk P w K mg base cf (L.blk scope) tg t) (hf : IfOk P w K mg base cf (L.blk scope) ifs ic)
    (he : EOk P w K mg base cf (L.blk scope) elt ie) (htA : ∀ j, j ∈ t.A → j ∈ own) (hU : ∀ j, j ∈ ii.U → j ∈ vs) (hq : q = true → ∀ j, j ∈ ii.U → j ∉ own ++ (t.W ++ (ic.W ++ ie.W))) (hq2 : q2 = true → ∀ j, j ∈ ie.U → j ∉ own ++ (t.W ++ (ic.W ++ ie.W)))
    {F : AP} {ρ : Env} {own0 : Own} {σ : L2.St} {H : Hp} (E : EnvR K F ρ own0 σ H) {d : D} {ρ' : Env} (h : den cf (.lc own q q2 t vs ii ic ie) ρ = .ok d ρ') {Q : VK}
    (k : ∀ v P' own' H', Res K F (Mn.E.lc own q q2 t vs ii ic ie).U (Mn.E.lc own q q2 t vs ii ic ie).W own0 H ρ' σ d v P' own' H' → Q v H') :
    tLc (Wi P w K mg base L tg iter) (Wg P w K mg base (L.blk scope) tg) (Wts P w K mg base (L.blk scope) ifs) (We P w K mg base (L.blk scope) elt) own σ H Q := by
  rw [den] at h
  obtain ⟨xs, ρ1, h1, h⟩ := R.bind_ok h
  obtain ⟨hg, h⟩ := R.grd_ok h
  obtain ⟨ys, ρe, h2, h⟩ := R.bind_ok h
  obtain ⟨hz, h⟩ := R.grd_ok h
  cases h
  have hz := of_decide_eq_true hz
  refine hi F ρ own0 σ H E xs ρ1 h1 _ fun J G own1 H1 S E1 g1 p1 D hD => ?_
  let Wl := own ++ (t.W ++ (ic.W ++ ie.W))
  -- what is kept of the source
  obtain ⟨U, B, g2, hdis⟩ : ∃ (U : List Nat) (B : Prop), G (AV F U own1 []) (fun a => B ∧ AV F [] own1 [] a) H1 ∧ ∀ j, j ∈ U → j ∉ Wl := by
    rcases (Bool.or_eq_true _ _).mp hg with hc | hc
    · refine ⟨[], True, ?_, fun _ z => nomatch z⟩
      have k : ∀ a, AV F ii.U own1 [] a → AV F [] own1 [] a := fun a z => ⟨z.1, z.2.1, fun j _ hj => by
        by_cases hjU : j ∈ ii.U
        · rw [E1.nod (List.all_eq_true.mp hc j (hU j hjU))] at hj; cases hj
        · exact z.2.2 j hjU hj⟩
      exact S.mono g1 (fun a _ _ => k a) fun a _ _ z => ⟨trivial, k a z⟩
    · have hc' := (Bool.and_eq_true _ _).mp hc
      exact ⟨ii.U, False, S.nf g1 hc'.2, hq hc'.1⟩
  let body : Mn.D → Env → R (Option Mn.D) := fun x ρ => (denT cf t x ρ).bind fun _ ρ => (den1 cf ic ρ).bind fun b ρ => if b = true then (den cf ie ρ).bind fun y ρ => .ok (some y) ρ else .ok none ρ
  let inv : Nat → Hp → Prop := fun i H' => ∃ ρ' own' ds rest Pa, EnvR K (FP F Pa) (wipeS ρ' own) own' (wipe σ own) H' ∧ Rp K H' (AV F ie.U own' Pa) (.lst true ds) (.ref D) Pa ∧ Pa.Nodup ∧ G (AV (FP F Pa) U own' []) (fun a => B ∧ AV (FP F Pa) [] own' [] a) H' ∧
    lcL own q2 body (xs.drop i) ρ' = .ok rest ρe ∧ ds ++ rest = ys ∧ Post Wl own1 H1 Pa own' H' ∧ (∀ b, b ∈ Pa → ¬ F b) ∧ (q2 = true ∨ nfms ds = true)
  have start : inv 0 (upd H1 D (.lst [])) := by
    have x : Ext H1 (upd H1 D (.lst [])) := Ext.new hD
    have nD : ∀ b, b ∈ [D] → H1 b = none := fun b hb => by rw [List.mem_singleton.mp hb]; exact hD
    have E2 : EnvR K (FP F [D]) ρ1 own1 σ (upd H1 D (.lst [])) := E1.ext x nD fun b hb => by rw [List.mem_singleton.mp hb, upd_same]; simp
    refine ⟨ρ1, offS own own1, [], ys, [D], E2.wiped own, ⟨D, [], [], rfl, upd_same, rfl, rfl, rfl⟩, by simp, ?_, by rw [List.drop_zero]; exact h2, rfl, ?_, fun b hb z => E1.fa b z (nD b hb), .inr rfl⟩
    · have g3 : G (fun a => H1 a ≠ none ∧ AV F U own1 [] a) (fun a => H1 a ≠ none ∧ (B ∧ AV F [] own1 [] a)) H1 := S.mono g2 (fun a o e z => ⟨by rw [e]; simp, z⟩) fun a o e z => ⟨by rw [e]; simp, z⟩
      refine S.mono (S.stay g3 (H' := upd H1 D (.lst [])) fun b o e _ => x b o e) (fun a o e z => ⟨fun y => y.elim z.2.1 fun y => z.1 (nD a y), z.2.2.1, fun j hj y => z.2.2.2 j hj (offS_mem y).2⟩) fun a o e z => ⟨z.2.1, fun y => y.elim z.2.2.1 fun y => z.1 (nD a y), z.2.2.2.1, fun j hj y => z.2.2.2.2 j hj (offS_mem y).2⟩
    · exact ⟨fun b o e _ => x b o e, fun b e => by
        cases q : H1 b with
        | none => exact absurd q e
        | some o => rw [x b o q]; simp, fun b hb => .inl (nD b hb), fun j b hb => .inl (offS_mem hb).2⟩
  refine ⟨fun i m H' => i ≤ xs.length ∧ m = xs.length - i ∧ inv i H', ⟨xs.length, Nat.zero_le _, rfl, start⟩, ?_⟩
  rintro i m H' ⟨hil, rfl, ρ2, own', ds, rest, Pa, E', rl, nd, g', hl, eds, pp, nF, acc⟩
  by_cases hlt : i < xs.length
  · refine .inr ⟨S.go g' hlt, fun H2 => inv (i + 1) H2, fun H2 n => ⟨xs.length - (i + 1), by omega, by omega, rfl, n⟩, fun x H2 y => ?_⟩
    obtain ⟨dx, hd, rx, ex⟩ := S.yld g' hlt y
    have ed : xs.drop i = dx :: xs.drop (i + 1) := by
      rw [List.drop_eq_getElem_cons hlt]
      rw [List.getElem?_eq_getElem hlt] at hd
      rw [Option.some.inj hd]
    rw [ed, lcL] at hl
    obtain ⟨o, ρa, hb, hl⟩ := R.bind_ok hl
    obtain ⟨rest', ρb, hr, hl⟩ := R.bind_ok hl
    obtain ⟨u, ρt, b, ρc, ht1, hf1, hcase⟩ := lc_body hb
    have px : Post [] own' H' [] own' H2 := Post.extend ex
    have E2 : EnvR K (FP F Pa) (wipeS ρ2 own) own' (wipe σ own) H2 := (E'.ext (P := []) ex (fun _ z => nomatch z) fun _ z => nomatch z).F0
    refine ht (FP F Pa) (wipeS ρ2 own) own' (wipe σ own) H2 dx x [] E2.F0' (rx.mono (fun _ _ e _ => e) fun a _ _ z => z.2) List.nodup_nil (fun _ z => nomatch z) ρt u ht1 _ fun σ3 own3 H3 E3 p3 s3 => ⟨wipe_eq (s3.mono htA), ?_⟩
    refine hf (FP F Pa) ρt own3 σ3 H3 E3 ρc b hf1 _ fun own4 H4 E4 p4 => ?_
    have p14 : Post (t.W ++ ic.W) own' H' [] own4 H4 := ((px.trans p3.post).trans p4).mono fun j hj => hj
    -- the end of a turn
    have fin : ∀ {ρz : Env} {own5 : Own} {H5 : Hp} {Pb : List Addr} {ds' : List Mn.D}, EnvR K (FP F Pb) ρz own5 σ3 H5 → Rp K H5 (AV F ie.U own5 Pb) (.lst true ds') (.ref D) Pb → Pb.Nodup → G (AV (FP F Pb) U own5 []) (fun a => B ∧ AV (FP F Pb) [] own5 [] a) H5 →
        lcL own q2 body (xs.drop (i + 1)) ρz = .ok rest' ρb → ρb = ρe → ds' ++ rest' = ys → Post Wl own1 H1 Pb own5 H5 → (∀ b, b ∈ Pb → ¬ F b) → (q2 = true ∨ nfms ds' = true) → inv (i + 1) H5 := fun {ρz own5 H5 Pb ds'} E5 r5 n5 g5 l5 e5 ey p5 f5 a5 => by
      subst e5
      refine ⟨ρz, offS own own5, ds', rest', Pb, ?_, r5.mono (fun _ _ e _ => e) fun a _ _ z => ⟨z.1, z.2.1, fun j hj y => z.2.2 j hj (offS_mem y).2⟩, n5, S.mono g5 (fun a _ _ z => ⟨z.1, z.2.1, fun j hj y => z.2.2 j hj (offS_mem y).2⟩) (fun a _ _ z => ⟨z.1, z.2.1, z.2.2.1, fun j hj y => z.2.2.2 j hj (offS_mem y).2⟩), l5, ey, p5.off own, f5, a5⟩
      have := E5.wiped own
      rw [wipe_eq (s3.mono htA)] at this
      exact this
    have hcond : (∀ j, j ∈ ie.U → j ∉ Wl) ∨ nfm (.lst true ds) = true := acc.imp hq2 fun z => by simp [nfm, z]
    rcases hcase with ⟨rfl, y, hy, rfl⟩ | ⟨rfl, rfl, rfl⟩
    · rw [if_pos rfl]
      obtain ⟨hqn, hl⟩ := R.grd_ok hl
      cases hl
      refine he (FP F Pa) ρc own4 σ3 H4 E4 y ρa hy _ fun vy P5 own5 H5 r5 => ?_
      have p15 : Post Wl own' H' P5 own5 H5 := (p14.trans r5.post).mono fun j hj => by simp only [Wl, List.mem_append] at hj ⊢; exact hj.elim (fun z => z.elim (fun z => .inr (.inl z)) fun z => .inr (.inr (.inl z))) fun z => .inr (.inr (.inr z))
      have ro := rl.over (U := ie.U) E' p15 hcond fun _ z => z
      obtain ⟨aD, us, Pc, eD, hsD, ePa, rr⟩ := ro
      cases eD
      have nF5 : ∀ c, c ∈ P5 → ¬ (FP F Pa) c := r5.F_of E4
      have hlen : us.length < sizeLine := by
        rw [rr.length]
        have : (ds ++ y :: rest').length ≤ sizeLine := by rw [eds]; exact hz
        rw [List.length_append, List.length_cons] at this
        omega
      refine ⟨us, hsD, hlen, ?_⟩
      have bu : But D H5 (upd H5 D (.lst (us ++ [vy]))) := But.upd
      have stD : ∀ o, H5 D = some o → ¬ Still o := fun o e => by rw [hsD] at e; cases e; exact id
      have DPa : D ∈ Pa := by rw [ePa]; exact List.mem_cons_self
      have DP5 : D ∉ P5 := fun z => nF5 D z (.inr DPa)
      have nd0 := nd
      rw [ePa] at nd0
      have DPc : D ∉ Pc := (List.nodup_cons.mp nd0).1
      have ndAll : (Pa ++ P5).Nodup := List.nodup_append.mpr ⟨nd, r5.nd, fun a ha c hc e => nF5 c hc (.inr (e ▸ ha))⟩
      have E5 : EnvR K (FP F (Pa ++ P5)) ρa own5 σ3 H5 := r5.env.less fun c z => z.elim (fun z => .inl (.inl z)) fun z => (List.mem_append.mp z).elim (fun z => .inl (.inr z)) .inr
      refine fin (Pb := Pa ++ P5) (ds' := ds ++ [y]) (E5.but bu (.inr (List.mem_append_left _ DPa)) stD) ?_ ndAll ?_ hr rfl (by rw [← eds]; simp) ?_ (fun c hc => (List.mem_append.mp hc).elim (nF c) fun z y => nF5 c z (.inl y)) ?_
      · refine ⟨D, us ++ [vy], Pc ++ P5, rfl, upd_same, by rw [ePa]; rfl, Rps.append (rr.but bu DPc (fun z => z.2.1 (List.mem_append_left _ DPa)) stD) (Rps.one ?_)⟩
        exact (r5.rep.mono (A' := AV F ie.U own5 (Pa ++ P5)) (fun _ _ e _ => e) fun a _ _ z => ⟨fun y => z.1 (.inl y), fun y => (List.mem_append.mp y).elim (fun y => z.1 (.inr y)) z.2.1, z.2.2⟩).but bu DP5 (fun z => z.2.1 (List.mem_append_left _ DPa)) stD
      · have g6 := SrcPostP S E' g' p15 hdis
        refine S.mono (S.stay g6 (H' := upd H5 D (.lst (us ++ [vy]))) fun c o e z => bu.1 c o e fun y => ?_) (fun a _ _ z => ⟨fun y => z.1 (y.elim (fun y => .inl (.inl y)) fun y => (List.mem_append.mp y).elim (fun y => .inl (.inr y)) .inr), z.2⟩) fun a _ _ z => ⟨z.1, fun y => z.2.1 (y.elim (fun y => .inl (.inl y)) fun y => (List.mem_append.mp y).elim (fun y => .inl (.inr y)) .inr), z.2.2⟩
        subst y
        rcases z with z | z | z
        · exact z.1 (.inl (.inr DPa))
        · exact z.2.1 (.inl (.inr DPa))
        · exact stD o e z
      · refine ((pp.trans p15).mono fun j hj => (List.mem_append.mp hj).elim id id).butP bu ?_
        exact hD
      · rcases (Bool.or_eq_true _ _).mp hqn with z | z
        · exact .inl z
        · rcases acc with y2 | y2
          · exact .inl y2
          · refine .inr ?_
            have : ∀ l : List Mn.D, nfms l = true → nfms (l ++ [y]) = true := fun l => by
              induction l with
              | nil => intro _; simp [nfms, z]
              | cons a l ih => intro hn; have := (Bool.and_eq_true _ _).mp hn; simp [nfms, this.1, ih this.2]
            exact this ds y2
    · rw [if_neg Bool.false_ne_true]
      cases hl
      have p14' : Post Wl own' H' [] own4 H4 := p14.mono fun j hj => by simp only [Wl, List.mem_append] at hj ⊢; exact hj.elim (fun z => .inr (.inl z)) fun z => .inr (.inr (.inl z))
      have ro := rl.over (U := ie.U) E' p14' hcond fun _ z => z
      rw [List.append_nil] at ro
      refine fin E4 ro nd ?_ hr rfl eds ((pp.trans p14').mono (fun j hj => (List.mem_append.mp hj).elim id id) |>.drop fun b hb => List.mem_append_left _ hb) nF acc
      exact SrcPost S E' g' p14' hdis
  · have e : i = xs.length := by omega
    subst e
    rw [List.drop_length, lcL] at hl
    cases hl
    rw [List.append_nil] at eds
    subst eds
    refine .inl ⟨S.stop g' (Nat.le_refl _), k (.ref D) Pa own' H' ⟨?_, rl.mono (fun _ _ e _ => e) fun a _ _ z => ⟨z.1, z.2.1, fun j hj => z.2.2 j fun y => hj (List.mem_append_right _ (List.mem_append_right _ y))⟩, nd, ?_⟩⟩
    · have on : ∀ j, j ∈ own → own' j = [] := fun j hj => E'.non j fun d => wipeS_in hj
      refine ⟨?_, fun j dd e => ?_, fun j hn => ?_, E'.nd, E'.dj, E'.fr, E'.fa⟩
      · rw [(restS_same (ρ0 := ρ1) (own := own) (ρ := ρe)).1]
        have := E'.len
        rw [wipeS_len, wipe_length] at this
        exact this
      · by_cases hj : j ∈ own
        · obtain ⟨g3, hfl⟩ := restS_in hj e
          obtain ⟨v, e1, r1⟩ := E1.rep j dd (getS_some g3)
          obtain ⟨_, r2⟩ := r1.fl (H' := H') (A' := AE (FP F Pa) own') hfl
          exact ⟨v, e1, by rw [on j hj]; exact r2⟩
        · rw [(restS_same (ρ0 := ρ1) (own := own) (ρ := ρe)).2 j hj] at e
          obtain ⟨v, e1, r1⟩ := E'.rep j dd (by rw [wipeS_no hj]; exact e)
          exact ⟨v, by rw [wipe_no hj] at e1; exact e1, r1⟩
      · by_cases hj : j ∈ own
        · exact on j hj
        · exact E'.non j fun dd e => hn dd (by rw [(restS_same (ρ0 := ρ1) (own := own) (ρ := ρe)).2 j hj, ← wipeS_no hj]; exact e)
    · refine (p1.trans pp).mono fun j hj => ?_
      simp only [Wl, List.mem_append] at hj
      simp only [Mn.E.W, List.mem_append]
      rcases hj with z | z | z | z | z
      · exact .inr (.inr (.inl z))
      · exact .inl z
      · exact .inr (.inl z)
      · exact .inr (.inr (.inr (.inl z)))
      · exact .inr (.inr (.inr (.inr z)))
theorem ok_lc {elt tg iter : Expr} {ifs : List Expr} {scope : Scope} {pos : Pos} {own : List (Str × Nat)} {q q2 : Bool} {t : T} {vs : List Nat} {ii : I} {ic : E1} {ie : E} (hnd : L.N.Nodup) (hb : BlkOk L.N L.sc scope own) (hi : IOk P w K mg base cf L tg iter ii) (ht : TgOk P w K mg base cf (L.blk scope) tg t)
    (hf : IfOk P w K mg base cf (L.blk scope) ifs ic) (he : EOk P w K mg base cf (L.blk scope) elt ie) (htA : ∀ j, j ∈ t.A → j ∈ own.map (·.2)) (hU : ∀ j, j ∈ ii.U → j ∈ vs) (hq : q = true → ∀ j, j ∈ ii.U → j ∉ own.map (·.2) ++ (t.W ++ (ic.W ++ ie.W)))
    (hq2 : q2 = true → ∀ j, j ∈ ie.U → j ∉ own.map (·.2) ++ (t.W ++ (ic.W ++ ie.W))) (hs : ∀ env x, foldedSetIterable iter env x = pure x) : EOk P w K mg base cf L (.ListComp elt [⟨tg, iter, ifs, 0⟩] scope pos) (.lc (own.map (·.2)) q q2 t vs ii ic ie) := by
  intro F ρ own0 σ H E d ρ' h Q k
  exact ⟨_, fun X hX => pe_lc hX.calm (by rw [hX.N]; exact hnd) (Wi.pi hX) (by rw [hX.N, hX.sc]; exact hb) (fun s H C cl fp => Wg.pg (hX.blk s H C cl fp)) (fun s H C cl fp => Wts.pts (hX.blk s H C cl fp)) (fun s H C cl fp => We.pe (hX.blk s H C cl fp)) (hs _),
    lc_core hi ht hf he htA hU hq hq2 E h k⟩
end
end Mn

/-! Mn W: methods that change nothing, displays of dicts, x = [..]. -/
namespace Mn
open PySem L2
def MT.name : MT → String
  | .join => "join" | .strip => "strip" | .upper => "upper" | .split => "split" | .get2 => "get" | .get1 => "get" | .count => "count" | .index => "index" | .zfill => "zfill"
/-- the methods that are covered -/
def MT.has : MT → Bool
  | .join => true
  | .split => true
  | _ => false
def MT.id (m : MT) : String := "str." ++ m.name
theorem mt_slot (m : MT) (h : m.has = true) : PlainAttrs "str" ∧ Slot "str" (Str.ofString m.name) m.id ∧ typeOf (.builtin m.id) = pure (.type "method_descriptor") := by
  cases m <;> first | cases h | skip
  · exact ⟨F.plainAttrs_str, F.slot_str_join, F.type_str_join⟩
  · exact ⟨F.plainAttrs_str, F.slot_str_split, F.type_str_split⟩
section
variable {P : Program} {w : World} {K : PySem.W.Frag} {mg : Str → Option Value} {base : Heap} {cf : Nat → List D → Option (D × List D)} {wf : Nat} {L : Lx}
def rJoin (K : PySem.W.Frag) : V → List V → Hp → VK → Prop := fun x xs H Q => ∃ a p, ∃ ys : List Str, x = .str a ∧ xs = [.ref p] ∧ (SqL K H p (ys.map V.str) ∨ SqT K H p (ys.map V.str)) ∧ (ys.map (·.length)).sum + ys.length * a.length ≤ 16777216 ∧ Q (.str (Txt.join a ys)) H
theorem mt_joinK {X : Cx} (e : X.K = K) : MtR X "str.join" (rJoin K) := by subst e; exact mt_join
theorem mtD_str {m : MT} {d r : D} {ys : List D} (hm : m.has = true) (h : mtD m d ys = some r) : ∃ s, d = .str s := by
  unfold mtD at h
  split at h
  · exact ⟨_, rfl⟩
  · exact ⟨_, rfl⟩
  · cases hm
  · cases h
theorem mtD_ok {m : MT} {d r : D} {ys : List D} {v : V} {us : List V} {H : Hp} {A : AP} {Q : VK} (hm : m.has = true) (h : mtD m d ys = some r) (rc : Rp K H A d v []) (ry : Rps K H A ys us []) (q : Made K H A r Q) : Wm P w K mg base L m.id v us H Q := by
  unfold mtD at h
  split at h
  · rename_i a d0
    obtain ⟨xs, h1, h2⟩ := Option.bind_eq_some_iff.mp h
    obtain ⟨zs, h3, h4⟩ := Option.bind_eq_some_iff.mp h2
    obtain ⟨hz, e⟩ := opt_if h4
    subst e
    obtain ⟨v1, rfl, r1⟩ := ry.one_inv
    obtain ⟨p, ws, rfl, hq, rw1⟩ := r1.seq h1
    obtain ⟨rfl, _, ka⟩ := rc
    rw [strs?_eq h3] at rw1
    obtain ⟨e1, _, kz⟩ := rps_strs rw1
    subst e1
    refine ⟨rJoin K, fun X hX => mt_joinK hX.K, a, p, zs, rfl, rfl, hq, hz, ?_⟩
    rw [show Txt.join a zs = Str.join a zs from TL.join_eq a zs]
    exact q.str (strOk_join ka kz)
  · rename_i a b
    obtain ⟨⟨h1, h2, h3⟩, e⟩ := opt_if h
    subst e
    obtain ⟨v1, rfl, r1⟩ := ry.one_inv
    obtain ⟨rfl, _⟩ := r1
    obtain ⟨rfl, _⟩ := rc
    exact ⟨_, fun X hX => mt_split, a, b, rfl, rfl, h1, h2, q.lst (rps_strs' fun x hx => List.all_eq_true.mp h3 x hx)⟩
  · cases hm
  · cases h
theorem ok_mt {m : MT} {q : Bool} {o e : Expr} {es : List Expr} {io : E} {ies : Es} {apos cpos : Pos} (hm : m.has = true) (ho : EOk P w K mg base cf L o io) (he : EsOk P w K mg base cf L (e :: es) ies) (hi : ies.ios = [])
    (hb : ∀ env, attributeBase o (Str.ofString m.name) env (eval o env) = eval o env) (hline : (apos.endLine == cpos.line) = true) (hst : ∀ a, a ∈ e :: es → ∀ x p, a ≠ .Starred x p) (hlen : (e :: es).length < 30) :
    EOk P w K mg base cf L (.Call (.Attribute o (Str.ofString m.name) apos) (e :: es) [] cpos) (.mt m q io ies) := by
  intro F ρ own σ H E d ρ' h Q k
  rw [den] at h
  obtain ⟨x, ρ1, h1, h⟩ := R.bind_ok h
  obtain ⟨ys, ρ2, h2, h⟩ := R.bind_ok h
  obtain ⟨hg, h⟩ := R.grd_ok h
  obtain ⟨h3, h4⟩ := R.opt_ok h
  subst h4
  obtain ⟨s, hs⟩ := mtD_str hm h3
  have ex : x = .str s := by cases x <;> simp [frz] at hs; rw [hs]
  subst ex
  obtain ⟨f1, f2, f3⟩ := mt_slot m hm
  refine ⟨tBM K "str" (Wm P w K mg base L m.id) (We P w K mg base L o) (Wa P w K mg base L (e :: es)), fun X hX => ?_, ?_⟩
  · have e := hX.K
    subst e
    exact pe_bm f1 f2 f3 (Wm.mt hX) (We.pe hX) (Wa.pa hX) (hb _) (few_of hst hlen) hline (star_of (hst _ List.mem_cons_self)) (plain_star fun a ha => hst a (List.mem_cons_of_mem _ ha))
  · refine ho F ρ own σ H E _ ρ1 h1 _ fun v1 P1 own1 H1 r1 => ?_
    obtain ⟨rfl, e1, ks⟩ := r1.rep
    subst e1
    refine ⟨rfl, he F ρ1 own1 σ H1 r1.env.F0 ys ρ' h2 _ fun us P2 own2 H2 r2 => ?_⟩
    have fr := (r2.rep.rps hi).frz (A' := AV F ies.U own2 []) fun a o e q => q.elim (fun q => ⟨q.1, fun z => (nomatch z), q.2.2⟩) fun q => ⟨r2.F_of r1.env.F0 a q, fun z => (nomatch z), fun j _ z => r2.env.fr j a z (.inr q)⟩
    refine mtD_ok hm h3 (⟨rfl, rfl, ks⟩ : Rp K H2 (AV F ies.U own2 []) (.str s) _ []) fr (Made.res r2.env.F1 (r2.post.drop fun _ z => nomatch z) fun v P' own' H' r => k v P' own' H' ?_)
    exact Res.behind (r1.post.drop fun _ z => nomatch z) r
/-! sorted(set(..)) -/
theorem ok_srt {a : Expr} {ia : E} {p p2 q pos : Pos} (ha : EOk P w K mg base cf L a ia) (hg : L.sc.names.lookup (Str.ofString "sorted") = some .globalImplicit) (hm : mg (Str.ofString "sorted") = none) (hg2 : L.sc.names.lookup (Str.ofString "set") = some .globalImplicit) (hm2 : mg (Str.ofString "set") = none)
    (hst : ∀ x p, a ≠ .Starred x p) : EOk P w K mg base cf L (.Call (.Name (Str.ofString "sorted") p) [.Call (.Name (Str.ofString "set") p2) [a] [] q] [] pos) (.srt ia) := by
  intro F ρ own σ H E d ρ' h Q k
  rw [den] at h
  obtain ⟨x, ρ1, h1, h2⟩ := R.bind_ok h
  clear h
  obtain ⟨h3, rfl⟩ := R.opt_ok h2
  clear h2
  refine ⟨tSrt K (We P w K mg base L a), fun X hX => ?_, ?_⟩
  · have e := hX.K
    subst e
    exact pe_srt (gl_of hX hg) (by rw [hX.mg]; exact hm) (gl_of hX hg2) (by rw [hX.mg]; exact hm2) (We.pe hX) hX.calm (star_of hst)
  · refine ha F ρ own σ H E x _ h1 _ fun v1 P1 own1 H1 r1 => ?_
    have g := r1.frz E
    have m := Made.res (d := d) r1.env.F1 (r1.post.drop fun _ z => nomatch z) k
    generalize frz x = y at h3 g
    unfold srtD at h3
    split at h3
    · obtain ⟨ks, hk, h4⟩ := Option.bind_eq_some_iff.mp h3
      obtain ⟨hl, e⟩ := opt_if h4
      subst e
      obtain ⟨aa, vs, rfl, hs, rr⟩ := g.lst0
      rw [ints?_eq hk] at rr
      obtain ⟨e1, _⟩ := rps_ints rr
      subst e1
      exact ⟨aa, ks, rfl, SqL.of hs, hl, m.lst rps_ints'⟩
    · cases h3
/-! d.get(k, constant) -/
theorem cst_pe {c : Const} {d : D} {j : Nat} {pos : Pos} (hc : constD c = some d) : ∃ v, (∀ X : Cx, PE X (.Constant c j pos) (tC v)) ∧ ∀ (H : Hp) (A : AP), Rp K H A d v [] := by
  cases c <;> simp only [constD] at hc <;> first | (cases hc; done) | skip
  · cases hc
    exact ⟨_, fun X => pe_non, fun _ _ => ⟨rfl, rfl⟩⟩
  · cases hc
    exact ⟨_, fun X => pe_bl, fun _ _ => ⟨rfl, rfl⟩⟩
  · cases hc
    exact ⟨_, fun X => pe_int, fun _ _ => ⟨rfl, rfl⟩⟩
  · obtain ⟨h1, h2⟩ := opt_if hc
    subst h2
    exact ⟨_, fun X => pe_str, fun _ _ => ⟨rfl, rfl, h1⟩⟩
theorem ok_get2 {q q1 q2 : Bool} {o e : Expr} {io ik : E} {c : Const} {j : Nat} {z : D} {apos cpos fpos : Pos} (ho : EOk P w K mg base cf L o io) (he : EOk P w K mg base cf L e ik) (hz : constD c = some z)
    (hq : q = true → ∀ j, j ∈ io.U → j ∉ ik.W) (hb : ∀ env, attributeBase o "get" env (eval o env) = eval o env) (hline : (apos.endLine == cpos.line) = true) (hst : ∀ x p, e ≠ .Starred x p) :
    EOk P w K mg base cf L (.Call (.Attribute o "get" apos) [e, .Constant c j fpos] [] cpos) (.mt .get2 q io (.cons q1 ik (.cons q2 (.cst z) .nil))) := by
  intro F ρ own σ H E d ρ' h Q k
  rw [den] at h
  obtain ⟨x, ρ1, h1, h⟩ := R.bind_ok h
  obtain ⟨ys, ρ2, h2, h⟩ := R.bind_ok h
  obtain ⟨hg, h⟩ := R.grd_ok h
  obtain ⟨h3, rfl⟩ := R.opt_ok h
  rw [denEs] at h2
  obtain ⟨y, ρ3, h2, h4⟩ := R.bind_ok h2
  obtain ⟨zs, ρ4, h4, h5⟩ := R.bind_ok h4
  obtain ⟨_, h5⟩ := R.grd_ok h5
  rw [denEs] at h4
  obtain ⟨z1, ρ5, h6, h7⟩ := R.bind_ok h4
  rw [den] at h6
  cases h6
  obtain ⟨ws, ρ6, h8, h9⟩ := R.bind_ok h7
  obtain ⟨_, h9⟩ := R.grd_ok h9
  rw [denEs] at h8
  cases h8
  cases h9
  cases h5
  obtain ⟨vz, pz, rz⟩ := cst_pe (K := K) (j := j) (pos := fpos) hz
  have fz : frz z = z := by
    cases c <;> simp only [constD] at hz <;> first | (cases hz; done) | skip
    · cases hz; rfl
    · cases hz; rfl
    · cases hz; rfl
    · obtain ⟨_, h2⟩ := opt_if hz
      subst h2
      rfl
  have hd : ∃ oo ks xs, frz x = .dk oo ks xs ∧ ∃ c, keyD (frz y) = some c ∧ (if flat ((getK c ks xs).getD z) then some ((getK c ks xs).getD z) else none) = some d := by
    simp only [frzs, fz] at h3
    generalize frz x = X at h3 ⊢
    cases X <;> simp only [mtD] at h3 <;> first | (cases h3; done) | skip
    obtain ⟨c, hc, h3⟩ := Option.bind_eq_some_iff.mp h3
    exact ⟨_, _, _, rfl, c, hc, h3⟩
  obtain ⟨oo, ks, xs, hx, kc, hk, h3⟩ := hd
  obtain ⟨hfl, hdd⟩ := opt_if h3
  refine ⟨tDGet2 (We P w K mg base L o) (We P w K mg base L e) (tC vz), fun X hX => pe_dget2 hX.u1 (We.pe hX) (We.pe hX) (pz X) ⟨hb _, few_of (fun a ha => ?_) (by simp), hline, ?_⟩, ?_⟩
  · rcases List.mem_cons.mp ha with rfl | ha
    · exact hst
    · rw [List.mem_singleton.mp ha]
      exact fun _ _ => nofun
  · rw [star_of hst]; rfl
  refine ho F ρ own σ H E x ρ1 h1 _ fun v1 P1 own1 H1 r1 => ?_
  have g0 := r1.rep.frz (A' := fun _ => True) fun _ _ _ _ => trivial
  rw [hx] at g0
  obtain ⟨aa, vs, rfl, hs1, _, _⟩ := g0.dk0
  refine ⟨aa, rfl, .inl ⟨_, .inl hs1⟩, ?_⟩
  refine he _ ρ1 own1 σ H1 r1.env y _ h2 _ fun v2 P2 own2 H2 r2 => ?_
  obtain ⟨g1, g2, E2, p⟩ := two_frz E r1 r2 (seq_cond hq hg)
  rw [hx] at g1
  obtain ⟨a2, vs2, e2, hs2, hl, rr⟩ := g1.dk0
  cases e2
  have eU : (Mn.E.mt .get2 q io (.cons q1 ik (.cons q2 (.cst z) .nil))).U = io.U ++ ik.U := by simp [Mn.E.U, Es.U]
  have eW : (Mn.E.mt .get2 q io (.cons q1 ik (.cons q2 (.cst z) .nil))).W = io.W ++ ik.W := by simp [Mn.E.W, Es.W]
  rw [eU, eW] at k
  have fin : ∀ v, Rp K H2 (AV F (io.U ++ ik.U) own2 []) d v [] → Q v H2 := fun v r => k v [] _ _ ⟨E2.F0', r, List.nodup_nil, p⟩
  rcases valV_zip (k := kc) rr hl with ⟨e1, e2⟩ | ⟨d', v, e1, e2, r⟩
  · rw [e1] at hdd
    exact ⟨_, .inl ⟨_, kc, .inl hs2, kV_keyD g2 hk, e2.symm⟩, fin vz (by rw [← hdd]; exact rz _ _)⟩
  · rw [e1] at hdd
    exact ⟨_, .inl ⟨_, kc, .inl hs2, kV_keyD g2 hk, e2.symm⟩, fin v (by rw [← hdd]; exact r)⟩
/-! {} -/
theorem ok_dct0 {pos : Pos} : EOk P w K mg base cf L (.Dict [] [] pos) (.dct [] .nil) := by
  intro F ρ own σ H E d ρ' h Q q
  rw [den, denEs] at h
  obtain ⟨xs, ρ1, h1, h⟩ := R.bind_ok h
  cases h1
  cases h
  refine ⟨tDNewK, fun X hX => pe_dnewK, fun p hp => ?_⟩
  have x : Ext H (upd H p (.dK [])) := Ext.new hp
  have nP : ∀ b, b ∈ [p] → H b = none := fun b hb => by rw [List.mem_singleton.mp hb]; exact hp
  have E1 : EnvR K (FP F [p]) ρ own σ (upd H p (.dK [])) := E.ext x nP fun b hb => by rw [List.mem_singleton.mp hb, upd_same]; simp
  exact q (.ref p) [p] own _ ⟨E1, ⟨p, [], [], rfl, upd_same, rfl, rfl, rfl, rfl⟩, by simp, ⟨fun b o e _ => x b o e, fun b e => by
    cases z : H b with
    | none => exact absurd z e
    | some o => rw [x b o z]; simp, fun b hb => .inl (nP b hb), fun j b hb => .inl hb⟩⟩
/-! displays of dicts -/
def keyE : Key → Expr → Bool
  | .inl i, .Constant (.int j) _ _ => i == j
  | .inr s, .Constant (.str t) _ _ => s == t && PyData.strOk s
  | _, _ => false
def tKey (k : Key) : TE := tC (kV k)
theorem pe_key {X : Cx} {k : Key} {e : Expr} (h : keyE k e = true) : PE X e (tKey k) := by
  cases k with
  | inl i =>
    cases e <;> first | (cases h; done) | skip
    rename_i c j pos
    cases c <;> first | (cases h; done) | skip
    have e := eq_of_beq (show (i == _) = true from h)
    subst e
    exact pe_int
  | inr s =>
    cases e <;> first | (cases h; done) | skip
    rename_i c j pos
    cases c <;> first | (cases h; done) | skip
    have e := eq_of_beq ((Bool.and_eq_true _ _).mp (show (s == _ && PyData.strOk s) = true from h)).1
    subst e
    exact pe_str
def trsOf (P : Program) (w : World) (K : PySem.W.Frag) (mg : Str → Option Value) (base : Heap) (L : Lx) : List Key → List Expr → List (TE × TE)
  | k :: ks, e :: es => (tKey k, We P w K mg base L e) :: trsOf P w K mg base L ks es
  | _, _ => []
def keysE : List Key → List (Option Expr) → Bool
  | [], [] => true
  | k :: ks, some e :: es => keyE k e && keysE ks es
  | _, _ => false
theorem keysE_all : ∀ {ks : List Key} {kes : List (Option Expr)}, keysE ks kes = true → kes.all (·.isSome) = true ∧ kes.length = ks.length
  | [], [], _ => ⟨rfl, rfl⟩
  | [], _ :: _, h => by cases h
  | _ :: _, [], h => by cases h
  | k :: ks, none :: es, h => by cases h
  | k :: ks, some e :: es, h => by
    obtain ⟨h1, h2⟩ := keysE_all ((Bool.and_eq_true _ _).mp h).2
    exact ⟨by simpa using h1, by simp [h2]⟩
theorem pps_of {X : Cx} {pos : Pos} (hX : InX P w K mg base L X) : ∀ {ks : List Key} {kes : List (Option Expr)} {es : List Expr}, keysE ks kes = true → ks.length = es.length → PPs X pos kes es (trsOf P w K mg base L ks es)
  | [], [], [], _, _ => pps_nil
  | [], _ :: _, _, h, _ => by cases h
  | _ :: _, [], _, h, _ => by cases h
  | [], [], _ :: _, _, h => by cases h
  | _ :: _, _, [], _, h => by cases h
  | k :: ks, none :: kes, _, h, _ => by cases h
  | k :: ks, some ke :: kes, e :: es, h, hl => pps_cons (pe_key ((Bool.and_eq_true _ _).mp h).1) (We.pe hX) (pps_of hX ((Bool.and_eq_true _ _).mp h).2 (by simpa using hl))
def DsOk (P : Program) (w : World) (K : PySem.W.Frag) (mg : Str → Option Value) (base : Heap) (cf : Nat → List D → Option (D × List D)) (L : Lx) (es : List Expr) (ies : Es) : Prop := ∀ (ks : List Key), ks.length = es.length → ∀ (F : AP) (ρ : Env) (own : Own) (σ : L2.St) (H : Hp), EnvR K F ρ own σ H →
  ∀ (ds : List D) (ρ' : Env), denEs cf ies ρ = .ok ds ρ' → ∀ Q : List (V × V) → Hp → Prop, (∀ vs P' own' H', Ress K F ies.U ies.W own H ρ' σ ds vs P' own' H' → vs.length = ks.length → Q ((ks.zip vs).map fun kv => (kV kv.1, kv.2)) H') → tPairs (trsOf P w K mg base L ks es) σ H Q
theorem ds_nil : DsOk P w K mg base cf L [] .nil := by
  intro ks hk F ρ own σ H E ds ρ' h Q q
  rw [denEs] at h
  cases h
  cases ks with
  | cons => cases hk
  | nil => exact q [] [] own H ⟨E.F0', ⟨rfl, rfl⟩, List.nodup_nil, Post.refl⟩ rfl
theorem ds_cons {qf : Bool} {e : Expr} {es : List Expr} {ie : E} {ies : Es} (he : EOk P w K mg base cf L e ie) (hes : DsOk P w K mg base cf L es ies) (hq : qf = true → ∀ j, j ∈ ie.U → j ∉ ies.W) : DsOk P w K mg base cf L (e :: es) (.cons qf ie ies) := by
  intro ks hk F ρ own σ H E ds ρ' h Q q
  rw [denEs] at h
  obtain ⟨x, ρ1, h1, h⟩ := R.bind_ok h
  obtain ⟨xs, ρ2, h2, h⟩ := R.bind_ok h
  obtain ⟨hg, h⟩ := R.grd_ok h
  cases h
  cases ks with
  | nil => cases hk
  | cons k ks =>
    refine he F ρ own σ H E x ρ1 h1 _ fun v1 P1 own1 H1 r1 => ?_
    refine hes ks (by simpa using hk) _ ρ1 own1 σ H1 r1.env xs ρ' h2 _ fun vs P2 own2 H2 r2 hl => ?_
    exact q (v1 :: vs) _ own2 H2 (Ress.cons E r1 r2 (seq_cond hq hg)) (by simp [hl])
theorem mergeK_new : ∀ {more acc : List (Key × V)}, ((acc ++ more).map (·.1)).Nodup → mergeK acc more = acc ++ more
  | [], acc, _ => by rw [List.append_nil]; rfl
  | p :: r, acc, h => by
    have hn : valV acc p.1 = none := by
      cases e : valV acc p.1 with
      | none => rfl
      | some v =>
        exfalso
        have := valV_any p.1 acc
        rw [e] at this
        obtain ⟨q, hq, hk⟩ := List.any_eq_true.mp (show (acc.any fun kv => decide (kv.1 = p.1)) = true by rw [this]; rfl)
        rw [List.map_append, List.nodup_append] at h
        exact h.2.2 q.1 (List.mem_map_of_mem hq) p.1 (by simp) (of_decide_eq_true hk)
    have e : mergeK acc (p :: r) = mergeK (putK acc p.1 p.2) r := rfl
    rw [e, putK_new p.2 hn]
    have := mergeK_new (more := r) (acc := acc ++ [p]) (by simpa using h)
    rw [this]
    simp
theorem ok_dct {ks : List Key} {kes : List (Option Expr)} {es : List Expr} {ies : Es} {pos : Pos} (hk : keysE ks kes = true) (hl : ks.length = es.length) (hn : ks.Nodup) (h0 : ks ≠ []) (h15 : ks.length ≤ 15) (he : DsOk P w K mg base cf L es ies) :
    EOk P w K mg base cf L (.Dict kes es pos) (.dct ks ies) := by
  intro F ρ own σ H E d ρ' h Q q
  rw [den] at h
  obtain ⟨xs, ρ1, h1, h⟩ := R.bind_ok h
  cases h
  obtain ⟨k1, k2⟩ := keysE_all hk
  refine ⟨tDisp (trsOf P w K mg base L ks es), fun X hX => pe_disp (pps_of hX hk hl) k1 (by rw [k2, hl]) (fun z => h0 (by rw [z] at k2; exact List.length_eq_zero_iff.mp k2.symm)) (by rw [k2]; exact h15), fun p hp => ?_⟩
  have x : Ext H (upd H p (.dK [])) := Ext.new hp
  have nP : ∀ b, b ∈ [p] → H b = none := fun b hb => by rw [List.mem_singleton.mp hb]; exact hp
  have E1 : EnvR K (FP F [p]) ρ own σ (upd H p (.dK [])) := E.ext x nP fun b hb => by rw [List.mem_singleton.mp hb, upd_same]; simp
  refine he ks hl (FP F [p]) ρ own σ _ E1 xs ρ' h1 _ fun vs P1 own1 H1 r hlen => ?_
  have pF : ∀ c, c ∈ P1 → ¬ (FP F [p]) c := r.F_of E1
  have hpn : ∀ j, p ∉ own j := fun j hj => E1.fr j p hj (.inr List.mem_cons_self)
  have hp1 : H1 p = some (.dK []) := r.post.keep p _ upd_same fun j _ => hpn j
  refine ⟨hp1, ks.zip vs, rfl, by rw [List.length_zip]; omega, ?_⟩
  have ek : (ks.zip vs).map (·.1) = ks := by rw [List.map_fst_zip]; omega
  rw [mergeK_new (by simpa [ek] using hn), List.nil_append]
  have bu : But p H1 (upd H1 p (.dK (ks.zip vs))) := But.upd
  have st : ∀ o, H1 p = some o → ¬ Still o := fun o e => by rw [hp1] at e; cases e; exact id
  have pP1 : p ∉ P1 := fun z => pF p z (.inr List.mem_cons_self)
  refine q (.ref p) (p :: P1) own1 _ ⟨?_, ⟨p, vs, P1, rfl, upd_same, by rw [hlen], rfl, ?_⟩, List.nodup_cons.mpr ⟨pP1, r.nd⟩, ?_⟩
  · have E2 : EnvR K (FP F (p :: P1)) ρ' own1 σ H1 := r.env.less fun c z => z.elim (fun z => .inl (.inl z)) fun z => (List.mem_cons.mp z).elim (fun z => .inl (.inr (List.mem_singleton.mpr z))) .inr
    exact E2.but bu (.inr List.mem_cons_self) st
  · have rr := r.rep.mono (A' := AV F ies.U own1 (p :: P1)) (fun _ _ e _ => e) fun a _ _ z => ⟨fun y => z.1 (.inl y), fun y => (List.mem_cons.mp y).elim (fun y => z.1 (.inr (List.mem_singleton.mpr y))) z.2.1, z.2.2⟩
    exact rr.but bu pP1 (fun z => z.2.1 List.mem_cons_self) st
  · refine ⟨fun b o e n => bu.1 b o (r.post.keep b o (x b o e) n) fun z => (by subst z; rw [hp] at e; cases e), fun b e => bu.2 b (r.post.there b ?_), fun b hb => ?_, fun j b hb => ?_⟩
    · cases q : H b with
      | none => exact absurd q e
      | some o => rw [x b o q]; simp
    · rcases List.mem_cons.mp hb with rfl | hb
      · exact .inl hp
      · rcases r.post.frP b hb with z | z
        · left
          cases q : H b with
          | none => rfl
          | some o => rw [x b o q] at z; cases z
        · exact .inr z
    · rcases r.post.frO j b hb with z | ⟨h1, z | z⟩
      · exact .inl z
      · refine .inr ⟨h1, .inl ?_⟩
        cases q : H b with
        | none => rfl
        | some o => rw [x b o q] at z; cases z
      · exact .inr ⟨h1, .inr z⟩
/-! x = [..] on one line -/
theorem s_setLc {i : Nat} {y : Str} {py : Pos} {elt tg iter : Expr} {ifs : List Expr} {scope : Scope} {pos spos : Pos} {own : List (Str × Nat)} {q q2 : Bool} {t : T} {vs vs2 : List Nat} {ii : I} {ic : E1} {ie : E} (hnd : L.N.Nodup) (hN : L.N[i]? = some y) (hy : L.sc.names.lookup y = some .local)
    (hb : BlkOk L.N L.sc scope own) (hi : IOk P w K mg base cf L tg iter ii) (ht : TgOk P w K mg base cf (L.blk scope) tg t)
    (hf : IfOk P w K mg base cf (L.blk scope) ifs ic) (he : EOk P w K mg base cf (L.blk scope) elt ie) (htA : ∀ j, j ∈ t.A → j ∈ own.map (·.2)) (hU : ∀ j, j ∈ ii.U → j ∈ vs) (hq : q = true → ∀ j, j ∈ ii.U → j ∉ own.map (·.2) ++ (t.W ++ (ic.W ++ ie.W)))
    (hq2 : q2 = true → ∀ j, j ∈ ie.U → j ∉ own.map (·.2) ++ (t.W ++ (ic.W ++ ie.W))) (hs : ∀ env x, foldedSetIterable iter env x = pure x) (hU2 : ∀ j, j ∈ (Mn.E.lc (own.map (·.2)) q q2 t vs ii ic ie).U → j ∈ vs2)
    (hsw : ∀ env : PySem.Env, env.scope = L.sc → swapsWith (.ListComp elt [⟨tg, iter, ifs, 0⟩] scope pos) (some (.Name y py)) spos.line env = pure true) :
    SOk P w K mg base cf wf L (.Assign [.Name y py] (.ListComp elt [⟨tg, iter, ifs, 0⟩] scope pos) spos) (.asg (.nm i) vs2 (.lc (own.map (·.2)) q q2 t vs ii ic ie)) := by
  intro F ρ own0 σ H E D h
  rw [denS] at h
  obtain ⟨d, ρ1, h1, h⟩ := nx_ok h
  obtain ⟨u, ρ2, h2, h3⟩ := nx_ok h
  rw [denT] at h2
  obtain ⟨hi2, h4⟩ := setS_ok h2
  subst h4
  refine ⟨_, fun X hX => ps_setLc hX.calm (by rw [hX.N]; exact hnd) (by rw [hX.N]; exact hN) (by rw [hX.sc]; exact hy) (hsw _ hX.sc) (Wi.pi hX) (by rw [hX.N, hX.sc]; exact hb) (fun s H C cl fp => Wg.pg (hX.blk s H C cl fp)) (fun s H C cl fp => Wts.pts (hX.blk s H C cl fp)) (fun s H C cl fp => We.pe (hX.blk s H C cl fp)) (hs _), ?_⟩
  refine lc_core hi ht hf he htA hU hq hq2 E h1 fun v P1 own1 H1 r => ?_
  obtain ⟨own2, E2, r2, p2⟩ := settle1 r.env r.rep r.post hU2
  exact h3 _ _ H1 (E2.sto r2 r.nd (r.F_of E) hi2) (p2.thenT PostT.sto mem_l fun j hj => List.mem_append_right _ (List.mem_append_right _ hj)) ⟨List.length_set, fun j hj => List.getElem?_set_ne fun e => hj (by rw [← e]; exact List.mem_singleton.mpr rfl)⟩
/-! for x in y: x.append(constant), of a list of own lists, that are forgotten -/
theorem own_elems {K : PySem.W.Frag} {H : Hp} {A : AP} {n : Nat} : ∀ {xs : List D} {vs : List V} {P : List Addr}, Rps K H A xs vs P → xs.all (ownB n) = true → ∀ (m : Nat) (v : V), vs[m]? = some v → ∃ l us, v = .ref l ∧ l ∈ P ∧ H l = some (.lst us) ∧ us.length + n < sizeLine
  | [], vs, P, h, _, m, v, e => by
    obtain ⟨rfl, _⟩ := h
    simp at e
  | x :: xs, vs, P, ⟨v1, r, P1, P2, e1, ep, h1, h2⟩, ha, m, v, e => by
    subst e1
    obtain ⟨hx, hxs⟩ := (Bool.and_eq_true _ _).mp (by simpa [List.all_cons] using ha : (ownB n x && xs.all (ownB n)) = true)
    cases m with
    | zero =>
      simp at e
      subst e
      cases x <;> try (cases hx; done)
      rename_i o ys
      cases o with
      | false => cases hx
      | true =>
        obtain ⟨a, us, P', rfl, hs, e2, rr⟩ := h1
        exact ⟨a, us, rfl, by rw [ep, e2]; simp, hs, by rw [rr.length]; exact of_decide_eq_true hx⟩
    | succ m =>
      obtain ⟨l, us, g1, g2, g3, g4⟩ := own_elems h2 hxs m v (by simpa using e)
      exact ⟨l, us, g1, by rw [ep]; exact List.mem_append_right _ g2, g3, g4⟩
theorem EnvR.sset {F : AP} {ρ : Env} {own : Own} {σ : L2.St} {H : Hp} {i : Nat} {v : V} (E : EnvR K F ρ own σ H) (hi : ∀ d, ρ[i]? ≠ some (some d)) : EnvR K F ρ own (σ.set i (some v)) H :=
  ⟨by rw [List.length_set]; exact E.len, fun j d e => by
    obtain ⟨w, h1, r⟩ := E.rep j d e
    refine ⟨w, ?_, r⟩
    rw [List.getElem?_set_ne fun z => hi d (by rw [z]; exact e)]
    exact h1, E.non, E.nd, E.dj, E.fr, E.fa⟩
theorem s_each {i j : Nat} {x y : Str} {d : D} {c : Const} {k : Nat} {p1 p2 p3 p4 p5 ap cp pos : Pos} (hnd : L.N.Nodup) (hi : L.N[i]? = some x) (hlx : L2.Loc L.sc x) (hfx : L.fn x = true ∨ L.sc.names.lookup x = some .local) (hvx : Vis L.sc x) (hxd : (x == ("__debug__" : Str)) = false) (hxc : (x == ("__classdict__" : Str)) = false)
    (hN : L.N[j]? = some y) (hvy : Vis L.sc y) (hyd : (y == ("__debug__" : Str)) = false) (hyc : (y == ("__classdict__" : Str)) = false) (hc : constD c = some d) (hline : (ap.endLine == cp.line) = true)
    (hs : ∀ env, swapsWith (.Call (.Attribute (.Name x p3) "append" ap) [.Constant c k p4] [] cp) none p5.line env = pure false) :
    SOk P w K mg base cf wf L (.For (.Name x p1) (.Name y p2) [.Expr (.Call (.Attribute (.Name x p3) "append" ap) [.Constant c k p4] [] cp) p5] [] pos) (.each i j d) := by
  intro F ρ own σ H E D h
  rw [denS] at h
  split at h
  case h_2 => exact h.elim
  rename_i xs e1
  split at h
  case isFalse => exact h.elim
  rename_i cond
  obtain ⟨hij, hfl, hall, hil⟩ := cond
  obtain ⟨v, e2, r⟩ := E.rep j _ (getS_some e1)
  have r0 := r
  obtain ⟨a, vs, P', rfl, ha, ep, rr⟩ := r
  have el := own_elems rr hall
  obtain ⟨vc, pc, _⟩ := cst_pe (K := K) (j := k) (pos := p4) hc
  have nd := E.nd j
  rw [ep] at nd
  have aP : a ∉ P' := (List.nodup_cons.mp nd).1
  have E0 := E.gone (i := j)
  have E1 : EnvR K (FP F (own j)) ((ρ.set j none).set i none) (setO (setO own j []) i []) σ H := (E0.gone (i := i)).less fun b z => .inl z
  generalize hρ : (ρ.set j none).set i none = ρ' at h E1
  generalize ho : setO (setO own j []) i [] = own' at E1
  have hni : ∀ d, ρ'[i]? ≠ some (some d) := fun d => by
    rw [← hρ, List.getElem?_set]
    simp
  have sub : ∀ q b, b ∈ own' q → b ∈ own q := fun q b hb => by
    rw [← ho] at hb
    exact (setO_nil (setO_nil hb).2).2
  let body : TS := tSeq (tDrop (tBM K "list" rAppend (tVar i) (tCons (tC vc) tNil))) tNext
  refine ⟨tFor (iList K (tVar j)) (gName i) body, fun X hX => PS.nox (ps_for PassesOwn.none hX.calm ?_ (pg_name (by rw [hX.nox.N]; exact hnd) (by rw [hX.nox.N]; exact hi) ?_ ?_) (pss_cons (ps_expr ?_ (hs _)) pss_nil) fun _ => rfl), ?_⟩
  · have e := hX.K
    subst e
    exact pi_list (X := X.nox) (pe_var (by rw [hX.nox.N]; exact hN) (by rw [hX.nox.sc]; exact hvy) hyd hyc)
  · rw [hX.nox.sc]; exact hlx
  · rw [hX.nox.sc, hX.nox.fn]; exact hfx
  · have e := hX.K
    subst e
    exact pe_bm (X := X.nox) pa_list PySem.F.slot_list_append PySem.F.type_list_append (mt_append (X := X.nox)) (pe_var (by rw [hX.nox.N]; exact hi) (by rw [hX.nox.sc]; exact hvx) hxd hxc) (pa_cons (pc _) pa_nil) rfl rfl hline rfl rfl
  -- the loop
  let inv : Nat → L2.St → Hp → Prop := fun m σ' H' => EnvR K (FP F (own j)) ρ' own' σ' H' ∧ H' a = some (.lst vs) ∧ SameT [i] σ σ' ∧ (∀ b o, H b = some o → b ∉ own j → H' b = some o) ∧ (∀ b, H b ≠ none → H' b ≠ none) ∧
    ∀ (q : Nat) (v : V), vs[q]? = some v → ∃ l us, v = .ref l ∧ l ∈ P' ∧ H' l = some (.lst us) ∧ us.length + xs.length < sizeLine + m
  have hlen : vs.length = xs.length := rr.length
  refine ⟨.ref a, e2, a, rfl, ⟨vs, SqL.of ha⟩, fun m t σ' H' => m ≤ vs.length ∧ t = vs.length - m ∧ inv m σ' H', ⟨vs.length, Nat.zero_le _, rfl, E1, ha, .refl, fun _ _ e _ => e, fun _ e => e, fun q v e => ?_⟩, ?_⟩
  · obtain ⟨l, us, g1, g2, g3, g4⟩ := el q v e
    exact ⟨l, us, g1, g2, g3, by omega⟩
  rintro m t σ' H' ⟨hml, rfl, E', ha', st', kp, th, el'⟩
  by_cases hlt : m < vs.length
  · refine .inr ⟨⟨vs, vs[m], SqL.of ha', List.getElem?_eq_getElem hlt⟩, fun σ2 H2 => inv (m + 1) σ2 H2, fun σ2 H2 n => ⟨vs.length - (m + 1), by omega, by omega, rfl, n⟩, fun z H2 yl => ?_⟩
    obtain ⟨rfl, yl⟩ := yl
    have ez := yl vs (SqL.of ha')
    obtain ⟨l, us, rfl, hl, hHl, hus⟩ := el' m z ez
    have hla : l ≠ a := fun z => aP (by rw [← z]; exact hl)
    have hlj : l ∈ own j := by rw [ep]; exact List.mem_cons_of_mem _ hl
    have hσ : i < σ'.length := by
      have := E'.len
      rw [← this, ← hρ]
      simpa using hil
    have usl : us.length < sizeLine := by omega
    refine ⟨.ref l, by rw [List.getElem?_set_self hσ], .inl ⟨rfl, us, SqL.of hHl⟩, l, us, vc, rfl, rfl, hHl, usl, ?_⟩
    have bu : But l H2 (upd H2 l (.lst (us ++ [vc]))) := But.upd
    have st : ∀ o, H2 l = some o → ¬ Still o := fun o e => by rw [hHl] at e; cases e; exact id
    refine ⟨(E'.sset hni).but bu (.inr hlj) st, by rw [upd_ne (Ne.symm hla)]; exact ha', st'.trans ⟨List.length_set, fun q hq => List.getElem?_set_ne fun e => hq (by rw [← e]; exact List.mem_singleton.mpr rfl)⟩ (fun _ z => z) fun _ z => z, fun b o e n => by
      rw [upd_ne fun z => n (by rw [z]; exact hlj)]
      exact kp b o e n, fun b e => bu.2 b (th b e), fun q v e => ?_⟩
    obtain ⟨l2, us2, g1, g2, g3, g4⟩ := el' q v e
    by_cases h12 : l2 = l
    · subst h12
      rw [hHl] at g3
      cases g3
      exact ⟨l2, us ++ [vc], g1, g2, upd_same, by simp; omega⟩
    · exact ⟨l2, us2, g1, g2, by rw [upd_ne h12]; exact g3, by omega⟩
  · have e : m = vs.length := by omega
    subst e
    refine .inl ⟨⟨vs, SqL.of ha', Nat.le_refl _⟩, ?_⟩
    refine h σ' own' H' (E'.less fun b z => .inl z) ⟨fun b o e n => kp b o e (n j List.mem_cons_self), th, fun b hb => (nomatch hb), fun q b hb => .inl (sub q b hb)⟩ st'
end
end Mn

/-! Mn Wa: max(.., default=c); calls of defs with keywords. -/
namespace Mn
open PySem L2
/-! max(numbers, default=c) -/
def rMxd (K : PySem.W.Frag) (mn : Bool) : List V → List V → Hp → VK → Prop := fun xs zs H Q => ∃ (a : Addr) (ks : List Int) (z : V), xs = [.ref a] ∧ zs = [z] ∧ SqL K H a (ks.map V.int) ∧ Q (((if mn then ks.min? else ks.max?).map V.int).getD z) H
theorem cr_mxd {X : Cx} (calm : X.calm = true) (mn : Bool) : CallRK X (.builtin (if mn then "min" else "max")) [Str.ofString "default"] (rMxd X.K mn) := by
  intro pins s σ H xs zs us ws Q I r1 r2 h
  obtain ⟨a, ks, z, rfl, rfl, hs, q⟩ := h
  obtain ⟨its, rv, hl, _⟩ := I.list hs
  rw [Vals.ref1 r1]
  obtain ⟨u, rfl, ru⟩ : ∃ u, ws = [u] ∧ RelV z u := by
    cases r2 with
    | cons h t => cases t; exact ⟨_, rfl, h⟩
  cases mn with
  | true =>
    refine min_default (d := u) (I.ok.hd calm) hl.isList rv.ints (fun e hp tk keep => ?_) fun m t hp tk hm hle keep => ?_
    · subst e
      exact ⟨z, H, I.kept keep, ru, q⟩
    · have e : ks.min? = some m := List.min?_eq_some_iff.mpr ⟨hm, hle⟩
      rw [if_pos rfl, e] at q
      exact ⟨.int m, H, I.kept keep, ⟨t, rfl⟩, q⟩
  | false =>
    refine max_default (d := u) (I.ok.hd calm) hl.isList rv.ints (fun e hp tk keep => ?_) fun m t hp tk hm hle keep => ?_
    · subst e
      exact ⟨z, H, I.kept keep, ru, q⟩
    · have e : ks.max? = some m := List.max?_eq_some_iff.mpr ⟨hm, hle⟩
      rw [if_neg (by decide), e] at q
      exact ⟨.int m, H, I.kept keep, ⟨t, rfl⟩, q⟩
theorem ok_mxd {mn : Bool} {a : Expr} {ia : E} {c : Const} {d0 : D} {j : Nat} {p cp kp pos : Pos} {P : Program} {w : World} {K : PySem.W.Frag} {mg : Str → Option Value} {base : Heap} {cf : Nat → List D → Option (D × List D)} {L : Lx} (ha : EOk P w K mg base cf L a ia) (hc : constD c = some d0) (hg : L.sc.names.lookup (Str.ofString (if mn then "min" else "max")) = some .globalImplicit) (hm : mg (Str.ofString (if mn then "min" else "max")) = none)
    (hst : ∀ x p, a ≠ .Starred x p) : EOk P w K mg base cf L (.Call (.Name (Str.ofString (if mn then "min" else "max")) p) [a] [⟨some (Str.ofString "default"), .Constant c j cp, kp⟩] pos) (.mxd mn ia d0) := by
  intro F ρ own σ H E d ρ' h Q k
  rw [den] at h
  obtain ⟨x, ρ1, h1, h2⟩ := R.bind_ok h
  clear h
  obtain ⟨h3, rfl⟩ := R.opt_ok h2
  clear h2
  obtain ⟨z, pz, rz⟩ := cst_pe (K := K) (j := j) (pos := cp) hc
  refine ⟨tCKw (rMxd K mn) (tCons (We P w K mg base L a) tNil) (tCons (tC z) tNil), fun X hX => ?_, ?_⟩
  · have e := hX.K
    subst e
    have gl := gl_of hX hg
    have mgn : X.mg (Str.ofString (if mn then "min" else "max")) = none := by rw [hX.mg]; exact hm
    have pa : PA X [a] (tCons (We P w X.K mg base L a) tNil) := pa_cons (We.pe hX) pa_nil (star_of hst)
    have pk : PK X [⟨some (Str.ofString "default"), .Constant c j cp, kp⟩] (tCons (tC z) tNil) := pk_cons (pz X) pk_nil
    have st := star_of (env := X.env) hst (es := [])
    cases mn with
    | true => exact pe_callBK (id := "min") (cr_mxd hX.calm true) gl mgn (by decide) pa pk (by decide) (by decide) (by rw [st]; rfl) (by rw [st]; rfl)
    | false => exact pe_callBK (id := "max") (cr_mxd hX.calm false) gl mgn (by decide) pa pk (by decide) (by decide) (by rw [st]; rfl) (by rw [st]; rfl)
  · refine ha F ρ own σ H E x _ h1 _ fun v1 P1 own1 H1 r1 => ?_
    have g := r1.frz E
    have m := Made.res (d := d) r1.env.F1 (r1.post.drop fun _ z => nomatch z) k
    generalize frz x = y at h3 g
    unfold mxD at h3
    split at h3
    · obtain ⟨ks, hk, e⟩ := Option.map_eq_some_iff.mp h3
      obtain ⟨aa, vs, rfl, hs, rr⟩ := g.lst0
      rw [ints?_eq hk] at rr
      obtain ⟨e1, _⟩ := rps_ints rr
      subst e1
      refine ⟨aa, ks, z, rfl, rfl, SqL.of hs, ?_⟩
      cases hb : (if mn = true then ks.min? else ks.max?) with
      | none =>
        rw [hb] at e
        have e : d0 = d := e
        subst e
        exact m.same (rz _ _)
      | some i =>
        rw [hb] at e
        have e : D.int i = d := e
        subst e
        exact m.int
    · cases h3
/-! calls with keywords -/
section
variable {P : Program} {w : World} {K : PySem.W.Frag} {mg : Str → Option Value} {base : Heap} {cf : Nat → List D → Option (D × List D)} {L : Lx}
def Wk (P : Program) (w : World) (K : PySem.W.Frag) (mg : Str → Option Value) (base : Heap) (L : Lx) (kws : List Keyword) : TA := fun σ H Q => ∃ t : TA, (∀ X, InX P w K mg base L X → PK X kws t) ∧ t σ H Q
theorem Wk.pk {X : Cx} {kws : List Keyword} (h : InX P w K mg base L X) : PK X kws (Wk P w K mg base L kws) := ⟨fun pos pins s σ H Q I ⟨_, p, q⟩ => (p X h).run pos pins s σ H Q I q⟩
def KsOk (P : Program) (w : World) (K : PySem.W.Frag) (mg : Str → Option Value) (base : Heap) (cf : Nat → List D → Option (D × List D)) (L : Lx) (kws : List Keyword) (ies : Es) : Prop := ∀ (F : AP) (ρ : Env) (own : Own) (σ : L2.St) (H : Hp), EnvR K F ρ own σ H → ∀ (ds : List D) (ρ' : Env), denEs cf ies ρ = .ok ds ρ' → ∀ Q : List V → Hp → Prop,
  (∀ vs P' own' H', ResI K F ies own H ρ' σ ds vs P' own' H' → Q vs H') → Wk P w K mg base L kws σ H Q
theorem ksok_nil : KsOk P w K mg base cf L [] .nil := fun F ρ own σ H E ds ρ' h Q q => by
  rw [denEs] at h
  cases h
  exact ⟨tNil, fun X _ => pk_nil, q [] [] own H ⟨E.F0', ⟨rfl, rfl, rfl⟩, List.nodup_nil, Post.refl⟩⟩
theorem ksok_cons {qf : Bool} {nm : Option Str} {kp : Pos} {e : Expr} {kws : List Keyword} {ie : E} {ies : Es} (he : EOk P w K mg base cf L e ie) (hes : KsOk P w K mg base cf L kws ies) (hq : qf = true → ∀ j, j ∈ ie.U → j ∉ ies.W) :
    KsOk P w K mg base cf L (⟨nm, e, kp⟩ :: kws) (.cons qf ie ies) := fun F ρ own σ H E ds ρ' h Q q => by
  rw [denEs] at h
  obtain ⟨x, ρ1, h1, h⟩ := R.bind_ok h
  obtain ⟨xs, ρ2, h2, h⟩ := R.bind_ok h
  obtain ⟨hg, h⟩ := R.grd_ok h
  cases h
  refine ⟨tCons (We P w K mg base L e) (Wk P w K mg base L kws), fun X hX => pk_cons (We.pe hX) (Wk.pk hX), ?_⟩
  refine he F ρ own σ H E x ρ1 h1 _ fun v1 P1 own1 H1 r1 => hes _ ρ1 own1 σ H1 r1.env xs _ h2 _ fun vs P2 own2 H2 r2 => ?_
  have h12 : ∀ b, b ∈ P2 → b ∉ P1 := fun b hb z => (r2.F_of r1.env b hb) (.inr z)
  refine q (v1 :: vs) (P1 ++ P2) own2 H2 ⟨r2.env.less fun b z => z.elim (fun z => .inl (.inl z)) fun z => (List.mem_append.mp z).elim (fun z => .inl (.inr z)) .inr, ⟨x, xs, v1, vs, P1, P2, rfl, rfl, rfl, ?_, ?_⟩, ?_, r1.post.trans r2.post⟩
  · exact r1.rep.over r1.env r2.post (seq_cond hq hg) fun j hj => List.mem_append_left _ hj
  · exact r2.rep.mono fun a o e q => ⟨fun z => q.1 (.inl z), fun z => (List.mem_append.mp z).elim (fun z => q.1 (.inr z)) q.2.1, fun j hj => q.2.2 j fun z => hj (List.mem_append_right _ z)⟩
  · exact List.nodup_append.mpr ⟨r1.nd, r2.nd, fun a ha b hb e => h12 b hb (e ▸ ha)⟩
theorem kw_each {kws : List Keyword} {ks : List Str} {env : PySem.Env} {pos : Pos} (h : kws.map (·.arg) = ks.map some) : (backToKw pos (keywordEach kws env)).all (·.1.isSome) = true ∧ (backToKw pos (keywordEach kws env)).any (·.1.isNone) = false ∧ (backToKw pos (keywordEach kws env)).filterMap (·.1) = ks := by
  have e : ∀ kws : List Keyword, (backToKw pos (keywordEach kws env)).map (·.1) = kws.map (·.arg) := fun kws => by
    induction kws with
    | nil => rfl
    | cons k kws ih =>
      obtain ⟨a, v, p⟩ := k
      show a :: (backToKw pos (keywordEach kws env)).map (·.1) = a :: kws.map (·.arg)
      rw [ih]
  have e1 := (e kws).trans h
  generalize backToKw pos (keywordEach kws env) = l at e1
  clear e h
  induction l generalizing ks with
  | nil => cases ks with
    | nil => exact ⟨rfl, rfl, rfl⟩
    | cons => cases e1
  | cons a l ih => cases ks with
    | nil => cases e1
    | cons k ks =>
      injection e1 with h1 h2
      obtain ⟨i1, i2, i3⟩ := ih h2
      obtain ⟨a1, a2⟩ := a
      have h1 : a1 = some k := h1
      subst h1
      exact ⟨by simpa using i1, by simpa using i2, by simp [i3]⟩
section
variable {X : Cx} {k n : Nat} {f : Addr} {fd : FuncData} {ps ks : List Str} {sp : Sp} {x : Str} {p pos : Pos} {e : Expr} {es : List Expr} {kws : List Keyword} {t tk : TA} {g : List Value → List Value → List Value} {gV : List V → List V → List V}
theorem run_KG (F : FnG X.prog X.w X.K X.mg X.base k f fd ps sp) (room : Room k X.A) (gd : X.A.guards = some []) (kb : KBn X.K fd ps n ks g gV) {pins : List (Addr × Obj)} {σ : L2.St} {Q : VK} (s2 : Shared) (H2 : Hp) (us ws : List Value) (vs zs : List V) (I2 : Inv X pins σ H2 s2) (r1 : Vals vs us) (r2 : Vals zs ws) (l1 : vs.length = n) (l2 : zs.length = ks.length) (q : sp (gV vs zs) H2 Q E0) :
    wpAny (model X.prog X.w) X.A (call (.ref f) us (ks.zip ws)) (EP X pins σ Q) X.xe s2 := by
  have both := kb.rel r1 r2
  have lens : (g us ws).length = ps.length := by rw [← both.length]; exact F.len _ _ _ _ q
  have run := F.run X.A X.stack s2 H2 ⟨us, ks.zip ws⟩ (g us ws) (gV vs zs) Q E0 room gd I2.env0 (kb.to s2 us ws I2.kIn (r1.length.symm.trans l1) (r2.length.symm.trans l2)) both q
  refine wpAny_call (codeAny_mono run fun res s' out => ?_)
  match res, out with
  | .ok (.ret _), out => exact I2.after out
  | .ok .next, out => exact (show False from out).elim
  | .ok .brk, out => exact (show False from out).elim
  | .ok .cont, out => exact (show False from out).elim
  | .error _, out => exact (show False from out).elim
theorem pe_callKG (F : FnG X.prog X.w X.K X.mg X.base k f fd ps sp) (room : Room k X.A) (gd : X.A.guards = some []) (gl : Gl X x) (mgx : X.mg x = some (.ref f)) (keep : PySem.W.keepIn X.K (.ref f) = true) (kb : KBn X.K fd ps n ks g gV)
    (ha : PA X (e :: es) t) (hk : PK X kws tk) (hks : kws.map (·.arg) = ks.map some) (ndb : (x == ("__debug__" : Str)) = false) (st : ∀ a, a ∈ e :: es → ∀ x p, a ≠ .Starred x p) :
    PE X (.Call (.Name x p) (e :: es) kws pos) (tCallN n ks.length sp gV E0 t tk) where
  run := fun pins s σ H Q I h => by
    obtain ⟨k1, k2, k3⟩ := kw_each (env := X.env) (pos := pos) hks
    have s0 := star_of (env := X.env) (es := es) (st e List.mem_cons_self)
    have pl : ((backTo pos (starEach (e :: es) X.env)).any (·.1) || (backToKw pos (keywordEach kws X.env)).any (·.1.isNone)) = false := by
      have h0 := plain_star (pos := pos) (env := X.env) fun a h => st a (List.mem_cons_of_mem _ h)
      rw [k2, s0]
      show ((false || (backTo pos (starEach es X.env)).any (·.1)) || false) = false
      rw [h0]
      rfl
    refine wpAny_Call_Name_kw (ld_glob I gl mgx (PySem.W.callWith_KW (h₀ := X.base) I.ok.mod.kin keep k1 (thn (ha.run pos pins s σ H _ I h) fun us s1 ⟨vs, H1, I1, r, q⟩ => thn (hk.run pos pins s1 σ H1 _ I1 q) fun ws s2 ⟨zs, H2, I2, rz, l1, l2, q2⟩ => ⟨I2.kIn, ?_⟩) pl s0) ndb)
    rw [k3]
    exact run_KG F room gd kb s2 H2 us ws vs zs I2 r rz l1 l2 q2
theorem pe_callKG0 (F : FnG X.prog X.w X.K X.mg X.base k f fd ps sp) (room : Room k X.A) (gd : X.A.guards = some []) (gl : Gl X x) (mgx : X.mg x = some (.ref f)) (keep : PySem.W.keepIn X.K (.ref f) = true) (kb : KBn X.K fd ps n ks g gV)
    (hk : PK X kws tk) (hks : kws.map (·.arg) = ks.map some) (ndb : (x == ("__debug__" : Str)) = false) :
    PE X (.Call (.Name x p) [] kws pos) (tCallN n ks.length sp gV E0 tNil tk) where
  run := fun pins s σ H Q I h => by
    obtain ⟨k1, k2, k3⟩ := kw_each (env := X.env) (pos := pos) hks
    refine wpAny_Call_Name_kw (ld_glob I gl mgx (PySem.W.callWith_KW0 (h₀ := X.base) I.ok.mod.kin keep k1 (thn (hk.run pos pins s σ H _ I h) fun ws s2 ⟨zs, H2, I2, rz, l1, l2, q2⟩ => ⟨I2.kIn, ?_⟩) (by rw [k2]; rfl)) ndb)
    rw [k3]
    exact run_KG F room gd kb s2 H2 [] ws [] zs I2 .nil rz l1 l2 q2
end
def mkEs (e : E) : Nat → Es
  | 0 => .nil
  | n + 1 => .cons true e (mkEs e n)
theorem mkEs_U {e : E} {j : Nat} : ∀ {n : Nat}, 0 < n → j ∈ e.U → j ∈ (mkEs e n).U
  | n + 1, _, h => by
    show j ∈ (Es.cons true e (mkEs e n)).U
    rw [Es.U]
    exact List.mem_append_left _ h
theorem mkEs_U' {e : E} {j : Nat} : ∀ {n : Nat}, j ∈ (mkEs e n).U → j ∈ e.U
  | 0, h => by rw [mkEs, Es.U] at h; cases h
  | n + 1, h => by
    rw [mkEs, Es.U] at h
    exact (List.mem_append.mp h).elim id mkEs_U'
theorem mkEs_W' {e : E} {j : Nat} : ∀ {n : Nat}, j ∈ (mkEs e n).W → j ∈ e.W
  | 0, h => by rw [mkEs, Es.W] at h; cases h
  | n + 1, h => by
    rw [mkEs, Es.W] at h
    exact (List.mem_append.mp h).elim id mkEs_W'
theorem mkEs_W {e : E} {j : Nat} : ∀ {n : Nat}, 0 < n → j ∈ e.W → j ∈ (mkEs e n).W
  | n + 1, _, h => by
    show j ∈ (Es.cons true e (mkEs e n)).W
    rw [Es.W]
    exact List.mem_append_left _ h
theorem mkEs_ios {e : E} : ∀ {n : Nat}, (mkEs e n).ios = []
  | 0 => by rw [mkEs, Es.ios]
  | n + 1 => by rw [mkEs, Es.ios]; exact mkEs_ios
theorem mkEs_pos {e : E} : ∀ {n m : Nat}, (mkEs e n).ioPos m = []
  | 0, m => by rw [mkEs, Es.ioPos]
  | n + 1, m => by rw [mkEs, Es.ioPos]; exact mkEs_pos
theorem mkEs_ai {e : E} {H : Hp} {A : AP} {ρ : Env} {σ : L2.St} : ∀ {ds : List D} {vs : List V}, Rps K H A ds vs [] → AI K H A ρ σ (mkEs e ds.length) ds vs []
  | [], vs, h => ⟨rfl, h.1, rfl⟩
  | d :: ds, vs, ⟨v, r, P1, P2, e1, e2, h1, h2⟩ => by
    obtain ⟨rfl, rfl⟩ : P1 = [] ∧ P2 = [] := by simpa using e2.symm
    exact ⟨d, ds, v, r, [], [], rfl, e1, rfl, h1, mkEs_ai h2⟩
theorem rps_arr {H : Hp} {A : AP} {arr : List (Bool × Nat)} {dfl xs : List D} {vs : List V} (h : Rps K H A xs vs []) (hf : dfl.all Mn.flat = true) (hs : StrsOk dfl) : Rps K H A (arrL arr dfl xs) (arrL arr (dfl.map vOf) vs) [] := by
  have hd : Rps K H A dfl (dfl.map vOf) [] := by
    induction dfl with
    | nil => exact ⟨rfl, rfl⟩
    | cons d ds ih =>
      have hf := (Bool.and_eq_true _ _).mp hf
      refine ⟨vOf d, ds.map vOf, [], [], rfl, rfl, ?_, ih hf.2 fun e he => hs e (List.mem_cons_of_mem _ he)⟩
      have h1 := hf.1
      cases d <;> first | (cases h1; done) | exact ⟨rfl, rfl⟩ | exact ⟨rfl, rfl, hs _ List.mem_cons_self _ rfl⟩
  induction arr with
  | nil => exact ⟨rfl, rfl⟩
  | cons p arr ih =>
    unfold arrL at ih ⊢
    have step : ∀ {ds : List D} {us : List V} {i : Nat}, Rps K H A ds us [] → (ds[i]? = none ∧ us[i]? = none) ∨ ∃ d v, ds[i]? = some d ∧ us[i]? = some v ∧ Rp K H A d v [] := fun {ds us i} r => by
      cases e : ds[i]? with
      | none =>
        refine .inl ⟨rfl, ?_⟩
        rw [List.getElem?_eq_none_iff] at e ⊢
        rw [r.length]
        exact e
      | some d =>
        obtain ⟨v, e2, r2⟩ := r.get0 e
        exact .inr ⟨d, v, rfl, e2, r2⟩
    obtain ⟨b, i⟩ := p
    cases b with
    | true =>
      rcases step (i := i) hd with ⟨e1, e2⟩ | ⟨d, v, e1, e2, r⟩
      · simpa [List.filterMap_cons, e1, e2] using ih
      · simp only [List.filterMap_cons, e1, e2, if_true]
        exact ⟨v, _, [], [], rfl, rfl, r, ih⟩
    | false =>
      rcases step (i := i) h with ⟨e1, e2⟩ | ⟨d, v, e1, e2, r⟩
      · simpa [List.filterMap_cons, e1, e2] using ih
      · simp only [List.filterMap_cons, e1, e2]
        exact ⟨v, _, [], [], rfl, rfl, r, ih⟩
def twoE (a b : Es) : E := .bin .add true (.lst a) (.lst b)
theorem twoE_U {a b : Es} : (twoE a b).U = a.U ++ b.U := by unfold twoE; rw [E.U, E.U, E.U]
theorem twoE_W {a b : Es} : (twoE a b).W = a.W ++ b.W := by unfold twoE; rw [E.W, E.W, E.W]
theorem ok_callk {kf i n : Nat} {f : Fn} {ks : List Str} {arr : List (Bool × Nat)} {es : List Expr} {kws : List Keyword} {ies ies2 : Es} {p pos : Pos} (hc : CallOk P w K mg base cf kf i f) (hs : StrsOk f.dfl) (hk : kf ≤ L.k) (h : EsOk P w K mg base cf L es ies) (h2 : KsOk P w K mg base cf L kws ies2) (hio : f.io = []) (i1 : ies.ios = []) (i2 : ies2.ios = []) (w2 : ies2.W = [])
    (hkw : (n, ks, arr) ∈ f.kws) (ha : arr.length = f.ps.length) (ha0 : arr ≠ []) (hks : kws.map (·.arg) = ks.map some) (hg : L.sc.names.lookup f.name = some .globalImplicit) (hdb : (f.name == ("__debug__" : Str)) = false) (hst : ∀ a, a ∈ es → ∀ x p, a ≠ .Starred x p) (hnil : es = [] → ies = .nil) :
    EOk P w K mg base cf L (.Call (.Name f.name p) es kws pos) (.callk i n ks arr f.dfl ies ies2) := by
  intro F ρ own σ H Ev d ρ' h' Q k
  rw [den] at h'
  obtain ⟨xs, ρ1, e1, h'⟩ := R.bind_ok h'
  obtain ⟨zs, ρ2, e2, h'⟩ := R.bind_ok h'
  obtain ⟨hgd, h'⟩ := R.grd_ok h'
  obtain ⟨hcf, rfl⟩ := R.kc_ok h'
  have g1 := (Bool.and_eq_true _ _).mp hgd
  have g2 := (Bool.and_eq_true _ _).mp g1.1
  obtain ⟨lx, lz, la⟩ := of_decide_eq_true g1.2
  obtain ⟨fa, fd, m1, m2, m3, _, m5⟩ := hc.fn
  obtain ⟨g, kb⟩ := m5 _ hkw
  have fin : ∀ vs P1 own1 H1, ResI K F ies own H ρ1 σ xs vs P1 own1 H1 → ∀ us P2 own2 H2, ResI K (FP F P1) ies2 own1 H1 ρ' σ zs us P2 own2 H2 → vs.length = n ∧ us.length = ks.length ∧ spF K cf i f (arrL arr (f.dfl.map vOf) (vs ++ us)) H2 Q E0 := fun vs P1 own1 H1 r1 us P2 own2 H2 r2 => by
    have b1 := r1.rep.rps i1
    have b2 := r2.rep.rps i2
    have p1 := b1.nod g2.1
    have p2 := b2.nod g2.2
    subst p1 p2
    refine ⟨by rw [b1.length]; exact lx, by rw [b2.length]; exact lz, ?_⟩
    have keep : ∀ b o, H1 b = some o → H2 b = some o := fun b o e => r2.post.keep b o e fun j hj => by rw [w2] at hj; cases hj
    have ow : ∀ j b, b ∈ own2 j → b ∈ own1 j := fun j b hb => (r2.post.frO j b hb).elim id fun z => by rw [w2] at z; exact nomatch z.1
    have pos : 0 < (arrL arr f.dfl (xs ++ zs)).length := by rw [la]; exact List.length_pos_iff.mpr ha0
    have full : (arrL arr f.dfl (xs ++ zs)).length = f.ps.length := la.trans ha
    generalize hds : arrL arr f.dfl (xs ++ zs) = ds at *
    have c1 : Rps K H2 (AV F (mkEs (twoE ies ies2) ds.length).U own2 []) xs vs [] := b1.mono (fun b o e _ => keep b o e) fun a o e q => ⟨q.1, fun z => (nomatch z), fun j hj z => q.2.2 j (fun y => hj (mkEs_U pos (by rw [twoE_U]; exact List.mem_append_left _ y))) (ow j a z)⟩
    have c2 : Rps K H2 (AV F (mkEs (twoE ies ies2) ds.length).U own2 []) zs us [] := b2.mono (fun b o e _ => e) fun a o e q => ⟨fun z => q.1 (.inl z), fun z => (nomatch z), fun j hj z => q.2.2 j (fun y => hj (mkEs_U pos (by rw [twoE_U]; exact List.mem_append_right _ y))) z⟩
    have c3 := rps_arr (arr := arr) (c1.append c2) hc.flat hs
    rw [hds] at c3
    have pst : Post (mkEs (twoE ies ies2) ds.length).W own H [] own2 H2 := (r1.post.trans r2.post).mono fun j hj => mkEs_W pos (by rw [twoE_W]; exact hj)
    have core := call_core (i := i) (f := f) (q := true) (ies := mkEs (twoE ies ies2) ds.length) (by rw [hio]; exact mkEs_pos) (by rw [mkEs_ios]; exact List.nodup_nil) (fun _ j _ z => by rw [mkEs_ios] at z; cases z) hc.flat hs hc.dfl Ev
      (⟨r2.env.less fun b z => .inl z, mkEs_ai c3, List.nodup_nil, pst⟩ : ResI K F _ own H ρ' σ ds _ [] own2 H2) rfl hcf (ρ2 := ρ') (by rw [mkEs_ios, putIos]) (Q := Q) fun v P' own' H' r => k v P' own' H' (r.mono (fun j hj => ?_) fun j hj => ?_)
    · rw [full, Nat.sub_self, Nat.sub_zero, List.drop_length] at core
      simpa using core
    · rw [E.U, ← twoE_U]
      exact mkEs_U' hj
    · rw [E.W, ← twoE_W]
      exact mkEs_W' hj
  cases es with
  | nil =>
    obtain rfl := hnil rfl
    rw [denEs] at e1
    cases e1
    refine ⟨tCallN n ks.length (spF K cf i f) (fun vs zs => arrL arr (f.dfl.map vOf) (vs ++ zs)) E0 tNil (Wk P w K mg base L kws), fun X hX => ?_, ?_⟩
    · obtain ⟨q1, q2, q3, q4, q5⟩ : X.prog = P ∧ X.w = w ∧ X.K = K ∧ X.mg = mg ∧ X.base = base := ⟨hX.prog, hX.w, hX.K, hX.mg, hX.base⟩
      have gl := gl_of hX hg
      have rm := hX.room.mono hk
      have gd := hX.gd
      have pk := Wk.pk (kws := kws) hX
      subst q1 q2 q3 q4 q5
      exact pe_callKG0 m3 rm gd gl m1 m2 kb pk hks hdb
    · have r1 : ResI K F Es.nil own H ρ σ [] [] [] own H := ⟨Ev.F0', ⟨rfl, rfl, rfl⟩, List.nodup_nil, Post.refl⟩
      exact h2 _ ρ own σ H r1.env zs _ e2 _ fun us P2 own2 H2 r2 => fin [] [] own H r1 us P2 own2 H2 r2
  | cons e es =>
    refine ⟨tCallN n ks.length (spF K cf i f) (fun vs zs => arrL arr (f.dfl.map vOf) (vs ++ zs)) E0 (Wa P w K mg base L (e :: es)) (Wk P w K mg base L kws), fun X hX => ?_, ?_⟩
    · obtain ⟨q1, q2, q3, q4, q5⟩ : X.prog = P ∧ X.w = w ∧ X.K = K ∧ X.mg = mg ∧ X.base = base := ⟨hX.prog, hX.w, hX.K, hX.mg, hX.base⟩
      have gl := gl_of hX hg
      have rm := hX.room.mono hk
      have gd := hX.gd
      have pa := Wa.pa (es := e :: es) hX
      have pk := Wk.pk (kws := kws) hX
      subst q1 q2 q3 q4 q5
      exact pe_callKG m3 rm gd gl m1 m2 kb pa pk hks hdb hst
    · exact h F ρ own σ H Ev xs _ e1 _ fun vs P1 own1 H1 r1 => h2 _ ρ1 own1 σ H1 r1.env zs _ e2 _ fun us P2 own2 H2 r2 => fin vs P1 own1 H1 r1 us P2 own2 H2 r2
end
end Mn

/-! Mn X: defs. -/
namespace Mn
open PySem L2
section
variable {P : Program} {w : World} {K : PySem.W.Frag} {mg : Str → Option Value} {base : Heap}
/-- a def by its body, where no text of an object is under way -/
theorem fnG_of {k : Nat} {f : Addr} {name qual : Str} {params : Arguments} {body : List Stmt} {scope : Scope} {dV kV doc pm cdv ct oc : Value} {an od : Option Addr} {osl : Array (Option Value)} {N ps : List Str} {sp : Sp}
    (look : K.lookup f = some ⟨oc, od, .func (PySem.W.fnOf name qual params body scope dV kV doc pm an cdv ct), osl⟩) (code : PySem.W.codeIn K cdv qual = true) (fs : FnScope N ps scope) (len : ∀ vs H Q E, sp vs H Q E → vs.length = ps.length)
    (bd : ∀ (X : Cx), InX P w K mg base ⟨N, scope, fun _ => true, k⟩ X → ∀ (H : Hp) (vs : List V) (Q : VK) (E : XK), sp vs H Q E → ∃ t, PSs X body t ∧ t { nx := fun _ H' => Q .non H', rt := Q } (L2.start N vs) H) :
    FnG P w K mg base (k + 1) f (PySem.W.fnOf name qual params body scope dV kV doc pm an cdv ct) ps sp := by
  refine ⟨len, fun A outer s H args us vs Q E room gd e0 bnd rv want => ?_⟩
  have lens := len _ _ _ _ want
  have inK : K.In s.heap := e0.mod.kin.keeps fun b o e => (e0.bs b o e).1
  have nolim : s.heap.NoLimit := e0.mod.nolimit.keeps fun b o e => (e0.bs b o e).1
  have kinds : ∀ y ∈ ps.zip us, scope.names.lookup y.1 = some .local ∨ (scope.names.lookup y.1 = some .cell ∧ ((cellsFrom (s.heap.objs.size + 1) scope.names []).lookup y.1).isSome = true) := fun ⟨n, v⟩ hy =>
    (fs.par n (List.of_mem_zip hy).1).imp id fun q => ⟨q, PySem.W.cellsFrom_some _ _ _ (.inl q)⟩
  refine codeAny_call_function room.depth (inK _ _ look) rfl fs.co fs.gen rfl (PySem.W.codeRec_of inK code) (bnd _ _ _ _ ?_)
  refine wpAny_newFunctionEnv_cells fs.kind kinds fun env henv s1 ic => ?_
  subst henv
  refine ⟨nolim.keeps ic.toInCall.keep, codeAny_func ?_⟩
  have inX : InX P w K mg base ⟨N, scope, fun _ => true, k⟩ (cxOf CX0 P w K mg base N qual scope f cdv A outer s H E).nox := ⟨rfl, rfl, rfl, rfl, rfl, rfl, rfl, rfl, rfl, room.deeper _, gd⟩
  obtain ⟨t, ht, hq⟩ := bd _ inX H vs Q E want
  have I0 : Inv (cxOf CX0 P w K mg base N qual scope f cdv A outer s H E) [] (L2.start N vs) H s1 := inv_start fs room.hd e0 lens rv ic
  refine wpAny_mono (ht.nox.run [] s1 (L2.start N vs) H _ I0 hq) (fun fl s' hs => ?_) fun e s' hs => hs
  have close : ∀ {σ' : L2.St} {H' : Hp} {v : V} {u : Value}, Inv (cxOf CX0 P w K mg base N qual scope f cdv A outer s H E) [] σ' H' s' → RelV v u → Q v H' → CE outer P w H s Q u s' :=
    fun {_ H' v _} J rv q => ⟨v, H', J.os, J.bare, J.base, J.hok, rv, q⟩
  cases fl with
  | next =>
    obtain ⟨_, _, J, q⟩ := hs
    exact close (v := V.non) (u := Value.none) J rfl q
  | ret u =>
    obtain ⟨_, _, _, J, rv, q⟩ := hs
    exact close J rv q
  | cont =>
    obtain ⟨_, _, _, q⟩ := hs
    exact q.elim
  | brk =>
    obtain ⟨_, _, _, q⟩ := hs
    exact q.elim
end
def cutE (n : Nat) (io : List Nat) (ρ : Env) : Env := (List.range n).map fun j => if j ∈ io then getS ρ j else none
def cutO (io : List Nat) (own : Own) : Own := fun j => if j ∈ io then own j else []
theorem cutO_mem {io : List Nat} {own : Own} {j : Nat} {b : Addr} (h : b ∈ cutO io own j) : j ∈ io ∧ b ∈ own j := by
  unfold cutO at h
  by_cases hj : j ∈ io
  · rw [if_pos hj] at h; exact ⟨hj, h⟩
  · rw [if_neg hj] at h; cases h
theorem cutE_get {n : Nat} {io : List Nat} {ρ : Env} {j : Nat} {d : D} (h : (cutE n io ρ)[j]? = some (some d)) : j < n ∧ j ∈ io ∧ getS ρ j = some d := by
  unfold cutE at h
  rw [List.getElem?_map] at h
  obtain ⟨i, h1, h2⟩ := Option.map_eq_some_iff.mp h
  have hl : j < n := by have := (List.getElem?_eq_some_iff.mp h1).1; simpa using this
  rw [List.getElem?_range hl] at h1
  cases h1
  by_cases hj : j ∈ io
  · rw [if_pos hj] at h2; exact ⟨hl, hj, h2⟩
  · rw [if_neg hj] at h2; cases h2
theorem cutE_at {n : Nat} {io : List Nat} {ρ : Env} {j : Nat} (hl : j < n) (hj : j ∈ io) : getS (cutE n io ρ) j = getS ρ j := by
  unfold cutE
  show ((List.map _ (List.range n))[j]?).join = _
  rw [List.getElem?_map, List.getElem?_range hl, Option.map_some, if_pos hj]
  rfl
theorem getIos_cut {n : Nat} {io : List Nat} {ρ : Env} : ∀ {is : List Nat}, (∀ j, j ∈ is → j < n ∧ j ∈ io) → getIos (cutE n io ρ) is = getIos ρ is
  | [], _ => rfl
  | i :: is, h => by
    unfold getIos
    rw [cutE_at (h i List.mem_cons_self).1 (h i List.mem_cons_self).2, getIos_cut fun j hj => h j (List.mem_cons_of_mem _ hj)]
theorem EnvR.cut {K : PySem.W.Frag} {G : AP} {ρ' : Env} {own' : Own} {σ' σ : L2.St} {H' : Hp} {io : List Nat} (E : EnvR K G ρ' own' σ' H') (hs : ∀ j, j ∈ io → j < σ.length ∧ σ'[j]? = σ[j]?) : EnvR K G (cutE σ.length io ρ') (cutO io own') σ H' := by
  refine ⟨by unfold cutE; rw [List.length_map, List.length_range], fun j d e => ?_, fun j hn => ?_, fun j => ?_, fun a b x hab ha hb => E.dj a b x hab (cutO_mem ha).2 (cutO_mem hb).2, fun j b hb => E.fr j b (cutO_mem hb).2, E.fa⟩
  · obtain ⟨_, hj, hg⟩ := cutE_get e
    obtain ⟨v, e1, r⟩ := E.rep j d (getS_some hg)
    refine ⟨v, by rw [← (hs j hj).2]; exact e1, ?_⟩
    have : cutO io own' j = own' j := by unfold cutO; rw [if_pos hj]
    rw [this]
    exact r.mono (fun _ _ e _ => e) fun a _ _ z => ⟨z.1, fun i hi => z.2 i (cutO_mem hi).2⟩
  · unfold cutO
    by_cases hj : j ∈ io
    · rw [if_pos hj]
      refine E.non j fun d e => hn d ?_
      have : getS (cutE σ.length io ρ') j = some d := by rw [cutE_at (hs j hj).1 hj]; unfold getS; rw [e]; rfl
      exact getS_some this
    · rw [if_neg hj]
  · unfold cutO
    by_cases hj : j ∈ io
    · rw [if_pos hj]; exact E.nd j
    · rw [if_neg hj]; exact List.nodup_nil
theorem spF_len {K : PySem.W.Frag} {cf : Nat → List D → Option (D × List D)} {i : Nat} {f : Fn} : ∀ vs H Q E, spF K cf i f vs H Q E → vs.length = f.ps.length := fun _ _ _ _ h => h.1
section
variable (P : Program) (w : World) (K : PySem.W.Frag) (mg : Str → Option Value) (base : Heap) (fns : List Fn) (wf : Nat)
/-- a def of the text, behind the top, and its small form -/
structure DefAt (f : Fn) (st : Stmt) : Prop where
  at_ : ∃ fa fd, mg f.name = some (.ref fa) ∧ FunD K f.name f.name (defArgs st) (defBody st) (defScope st) (f.dfl.map vOf) [] fa fd ∧ (∀ n, n ≤ f.dfl.length → ∃ ds, Vals ((f.dfl.drop (f.dfl.length - n)).map vOf) ds ∧ Binds K fd f.ps ds) ∧ KwOk K fd f
  sc : FnScope f.N f.ps (defScope st)
  io : ∀ j, j ∈ f.io → j < f.ps.length ∧ j ∉ f.body.A
  flat : f.dfl.all Mn.flat = true
  body : ∀ n, (∀ j g, fns[j]? = some g → CallOk P w K mg base (callD fns wf n) n j g) → SsOk P w K mg base (callD fns wf n) wf ⟨f.N, defScope st, fun _ => true, n⟩ (defBody st) f.body
end
section
variable {P : Program} {w : World} {K : PySem.W.Frag} {mg : Str → Option Value} {base : Heap} {fns : List Fn} {wf : Nat}
theorem post_entry {own : Own} {own' : Own} {H H' : Hp} {W : List Nat} {P1 : List Addr} {n : Nat} {io : List Nat} (p : Post W own H P1 own' H') (h0 : ∀ j, n ≤ j → own j = []) (hio : ∀ j, j ∈ io → j < n) : Post (List.range n) own H P1 (cutO io own') H' := by
  have lt : ∀ j b, b ∈ own j → j ∈ List.range n := fun j b hb => by
    rw [List.mem_range]
    by_cases h : j < n
    · exact h
    · rw [h0 j (by omega)] at hb; cases hb
  refine ⟨fun b o e q => p.keep b o e fun j _ hb => q j (lt j b hb) hb, p.there, fun b hb => (p.frP b hb).imp id fun ⟨j, _, z⟩ => ⟨j, lt j b z, z⟩, fun j b hb => ?_⟩
  obtain ⟨hj, hb⟩ := cutO_mem hb
  exact (p.frO j b hb).imp id fun ⟨_, z⟩ => ⟨List.mem_range.mpr (hio j hj), z.imp id fun ⟨i, _, z⟩ => ⟨i, lt i b z, z⟩⟩
theorem fn_ok {i : Nat} {f : Fn} {st : Stmt} (h : DefAt P w K mg base fns wf f st) (hi : fns[i]? = some f) {n : Nat} (ih : ∀ j g, fns[j]? = some g → CallOk P w K mg base (callD fns wf n) n j g) :
    ∃ fa fd, mg f.name = some (.ref fa) ∧ PySem.W.keepIn K (.ref fa) = true ∧ FnG P w K mg base (n + 1) fa fd f.ps (spF K (callD fns wf (n + 1)) i f) ∧ (∀ m, m ≤ f.dfl.length → ∃ ds, Vals ((f.dfl.drop (f.dfl.length - m)).map vOf) ds ∧ Binds K fd f.ps ds) ∧ KwOk K fd f := by
  obtain ⟨fa, fd, hm, F, hb⟩ := h.at_
  refine ⟨fa, fd, hm, F.kp, ?_, hb⟩
  obtain ⟨oc, od, dV, kV, doc, pm, an, cdv, ct, osl, rfl, look, code, _, _⟩ := F.ex
  refine fnG_of look code h.sc spF_len fun X hX H vs Q E want => ?_
  obtain ⟨hl, G, own, ds, d, os, E0, hc, k⟩ := want
  have lds : ds.length = vs.length := by have := E0.len; simpa using this
  have hpn : f.ps.length ≤ f.N.length := by
    have := congrArg List.length h.sc.pre
    rw [List.length_take] at this
    omega
  -- the call, as the small language has it
  unfold callD at hc
  rw [hi] at hc
  have hc2 : (if ds.length ≤ f.ps.length ∧ f.ps.length ≤ ds.length + f.dfl.length then runF f (denSs (callD fns wf n) wf f.body ((ds ++ f.dfl.drop (f.dfl.length - (f.ps.length - ds.length))).map some ++ List.replicate (f.N.length - f.ps.length) none)) else none) = some (d, os) := hc
  rw [if_pos ⟨by omega, by omega⟩] at hc2
  have e0 : f.dfl.drop (f.dfl.length - (f.ps.length - ds.length)) = [] := List.drop_eq_nil_of_le (by omega)
  rw [e0, List.append_nil] at hc2
  -- the slots at the entry
  have own0 : ∀ j, f.ps.length ≤ j → own j = [] := fun j hj => E0.non j fun d e => by
    have := (List.getElem?_eq_some_iff.mp e).1
    rw [List.length_map] at this
    omega
  have Es : EnvR K G (ds.map some ++ List.replicate (f.N.length - f.ps.length) none) own (L2.start f.N vs) H := by
    refine ⟨by unfold L2.start; simp [lds, hl], fun j d e => ?_, fun j hn => ?_, E0.nd, E0.dj, E0.fr, E0.fa⟩
    · by_cases hj : j < ds.length
      · rw [List.getElem?_append_left (by simpa using hj)] at e
        obtain ⟨v, e1, r⟩ := E0.rep j d e
        exact ⟨v, by unfold L2.start; rw [List.getElem?_append_left (by simpa [← lds] using hj)]; exact e1, r⟩
      · rw [List.getElem?_append_right (by simpa using hj), List.getElem?_replicate] at e
        split at e <;> cases e
    · by_cases hj : j < ds.length
      · exact E0.non j fun d e => hn d (by rw [List.getElem?_append_left (by simpa using hj)]; exact e)
      · exact own0 j (by omega)
  obtain ⟨t, ht, hq⟩ := h.body n ih G _ own (L2.start f.N vs) H Es { nx := fun _ H' => Q .non H', rt := Q } (by
    have io1 : ∀ j, j ∈ f.io → j < vs.length := fun j hj => by rw [hl]; exact (h.io j hj).1
    have at1 : ∀ {σ' : L2.St}, SameT f.body.A (L2.start f.N vs) σ' → ∀ j, j ∈ f.io → j < (vs.map some).length ∧ σ'[j]? = (vs.map some)[j]? := fun {σ'} s j hj => by
      refine ⟨by rw [List.length_map]; exact io1 j hj, ?_⟩
      rw [s.2 j (h.io j hj).2]
      unfold L2.start
      rw [List.getElem?_append_left (by rw [List.length_map]; exact io1 j hj)]
    have done : ∀ {σ' : L2.St} {own' : Own} {H' : Hp} {v : V} {P1 : List Addr} {ρ' : Env}, EnvR K (FP G P1) ρ' own' σ' H' → getIos ρ' f.io = some os → Rp K H' (AV G [] own' P1) d v P1 → P1.Nodup → Post f.body.W own H P1 own' H' → SameT f.body.A (L2.start f.N vs) σ' → Q v H' := fun {σ' own' H' v P1 ρ'} E1 g r nd p s => by
      have := E1.cut (σ := vs.map some) (at1 s)
      rw [List.length_map] at this
      refine k v P1 _ H' _ this (by rw [getIos_cut fun j hj => ⟨io1 j hj, hj⟩]; exact g) (fun j hj => by unfold cutO; rw [if_neg hj]) (r.mono (fun _ _ e _ => e) fun a _ _ z => ⟨z.1, z.2.1, fun j hj y => z.2.2 j hj (cutO_mem y).2⟩) nd ?_
      exact post_entry p (by rw [hl]; exact own0) io1
    cases e : denSs (callD fns wf n) wf f.body (ds.map some ++ List.replicate (f.N.length - f.ps.length) none) with
    | nx ρ' =>
      rw [e] at hc2
      obtain ⟨os', g, e2⟩ := Option.map_eq_some_iff.mp (show (getIos ρ' f.io).map (fun ds => (D.non, ds)) = some (d, os) from hc2)
      cases e2
      exact fun σ' own' H' E1 p s => done (v := .non) (P1 := []) E1.F0' g ⟨rfl, rfl⟩ List.nodup_nil p s
    | rt d' ρ' =>
      rw [e] at hc2
      obtain ⟨os', g, e2⟩ := Option.map_eq_some_iff.mp (show (getIos ρ' f.io).map (fun ds => (d', ds)) = some (d, os) from hc2)
      cases e2
      exact fun σ' own' H' v P1 E1 r nd p s => done E1 g r nd p s
    | bk ρ' => rw [e] at hc2; cases hc2
    | ct ρ' => rw [e] at hc2; cases hc2
    | bad => rw [e] at hc2; cases hc2)
  exact ⟨t, ht X hX, hq⟩
theorem callD_dfl {n i : Nat} {f : Fn} (hi : fns[i]? = some f) {ds : List D} {r : D × List D} (h : callD fns wf n i ds = some r) : ds.length ≤ f.ps.length ∧ f.ps.length ≤ ds.length + f.dfl.length ∧ callD fns wf n i (ds ++ f.dfl.drop (f.dfl.length - (f.ps.length - ds.length))) = some r := by
  cases n with
  | zero => cases h
  | succ n =>
    unfold callD at h ⊢
    rw [hi] at h ⊢
    have h2 : (if ds.length ≤ f.ps.length ∧ f.ps.length ≤ ds.length + f.dfl.length then runF f (denSs (callD fns wf n) wf f.body ((ds ++ f.dfl.drop (f.dfl.length - (f.ps.length - ds.length))).map some ++ List.replicate (f.N.length - f.ps.length) none)) else none) = some r := h
    by_cases hc : ds.length ≤ f.ps.length ∧ f.ps.length ≤ ds.length + f.dfl.length
    · rw [if_pos hc] at h2
      refine ⟨hc.1, hc.2, ?_⟩
      have el : (ds ++ f.dfl.drop (f.dfl.length - (f.ps.length - ds.length))).length = f.ps.length := by rw [List.length_append, List.length_drop]; omega
      show (if _ ∧ _ then _ else _) = some r
      rw [el, if_pos ⟨Nat.le_refl _, Nat.le_add_right _ _⟩]
      have : f.dfl.drop (f.dfl.length - (f.ps.length - f.ps.length)) = [] := List.drop_eq_nil_of_le (by omega)
      rw [this, List.append_nil]
      exact h2
    · rw [if_neg hc] at h2; cases h2
theorem calls_ok (h : ∀ (i : Nat) (f : Fn), fns[i]? = some f → ∃ st, DefAt P w K mg base fns wf f st) : ∀ (n i : Nat) (f : Fn), fns[i]? = some f → CallOk P w K mg base (callD fns wf n) n i f
  | 0, i, f, hi => by
    obtain ⟨st, d⟩ := h i f hi
    obtain ⟨fa, fd, hm, F, hb⟩ := d.at_
    refine ⟨⟨fa, fd, hm, F.kp, ⟨spF_len, fun A outer s H args us vs Q E room gd e0 bnd rv want => ?_⟩, hb⟩, fun ds r e => (nomatch e), d.flat⟩
    obtain ⟨_, _, _, _, _, _, _, e, _⟩ := want
    cases e
  | n + 1, i, f, hi => by
    obtain ⟨st, d⟩ := h i f hi
    exact ⟨fn_ok d hi (calls_ok h n), fun ds r e => callD_dfl hi e, d.flat⟩
end
end Mn

/-! Mn Y: a law's end. -/
namespace Mn
open PySem L2 PyProof.Rows PySem.Spec
/-- the law's def at the script, behind the top -/
theorem law_callG {P : Program} {w : World} {K : PySem.W.Frag} {mg mb : Str → Option Value} {k : Nat} {fa a : Addr} {x : Str} {sp : Sp} {s1 : Shared} {vals : List Value} {ns : List Int}
    (inK : K.In s1.heap) (glob : s1.heap.Ns mainGlobals mg) (blt : s1.heap.Ns builtinsNs mb) (bltOk : ∀ x : Str, x ≠ "__name__" → mb x = bootBuiltins x) (nolim : s1.heap.NoLimit) (nogen : s1.gens = #[])
    (obj : s1.heap.get? a = some { cls := .type "list", data := .seq vals.toArray }) (whole : IntsAre vals ns) (few : ns.length ≤ sizeLine) (room : Room k callerA)
    (fn : ∀ base : Heap, K.In base → base.Ns mainGlobals mg → ∃ fd : FuncData, Binds K fd [x] [] ∧ FnG P w K mg base k fa fd [x] sp)
    (want : ∀ H : Hp, Only H → SqL K H a (ns.map V.int) → sp [.ref a] H (fun v _ => v = .bl true) E0) :
    codeAny (model P w) callerA (.call (.ref fa) ⟨[.ref a], []⟩) (fun r s' => r = .ok (.ret (.bool true)) ∧ OldK s1.heap s'.heap ∧ s'.os = s1.os ∧ AllBare s'.gens) s1 := by
  have rv := vals_ints whole
  have nlen := whole.length
  -- a heap in which the script alone may be tracked
  have main : ∀ H : Hp, Only H → SqL K H a (ns.map V.int) → HOk P w H s1.heap → (∀ b, H b ≠ none → b = a) → (H a ≠ none → K.lookup a = none) →
      codeAny (model P w) callerA (.call (.ref fa) ⟨[.ref a], []⟩) (fun r s' => r = .ok (.ret (.bool true)) ∧ OldK s1.heap s'.heap ∧ s'.os = s1.os ∧ AllBare s'.gens) s1 := by
    intro H only sq hok alone notK
    have none_of : ∀ {b : Addr}, b ≠ a → H b = none := fun {b} n => by
      cases e : H b with
      | none => rfl
      | some u => exact absurd (alone b (by rw [e]; simp)) n
    have ns_of : ∀ {b : Addr} {m : Str → Option Value}, s1.heap.Ns b m → (hidT s1.heap H).Ns b m := fun {b m} ⟨o, es, ep, e, d, r⟩ => by
      refine ⟨o, es, ep, hidT_get e (none_of fun z => ?_), d, r⟩
      subst z
      rw [obj] at e
      cases e
      have z : Data.seq vals.toArray _ = Data.dict es ep := d
      cases z
    have kin : K.In (hidT s1.heap H) := fun b o e => by
      refine hidT_get (inK b o e) ?_
      cases q : H b with
      | none => rfl
      | some u =>
        have z : b = a := alone b (by rw [q]; simp)
        subst z
        rw [notK (by rw [q]; simp)] at e
        cases e
    have mod : Mod K mg (hidT s1.heap H) := ⟨kin, ns_of glob, ⟨mb, ns_of blt, bltOk⟩, let ⟨mc, h1, h2⟩ := nolim; ⟨mc, ns_of h1, h2⟩⟩
    have e0 : Env0 P w K mg (hidT s1.heap H) callerA [] s1 H :=
      ⟨rfl, mod, fun b o e => of_hidT e, Nat.le_of_eq (hidT_size _ _), trivial, fun b hb => (nomatch (show b ∈ ([] : List Addr) from hb)), hok, .of_eq nogen⟩
    obtain ⟨fd, bnd, run⟩ := fn _ kin (ns_of glob)
    have bs : BindsTo s1 fd ⟨[.ref a], []⟩ ([x].zip [.ref a]) := bnd s1 [.ref a] inK rfl
    refine codeAny_mono (run.run callerA [] s1 H ⟨[.ref a], []⟩ [.ref a] [.ref a] _ _ room rfl e0 bs (.cons rfl .nil) (want H only sq)) fun r s' got => ?_
    cases r with
    | error e => exact (show False from got).elim
    | ok fl =>
      cases fl with
      | next => exact (show False from got).elim
      | cont => exact (show False from got).elim
      | brk => exact (show False from got).elim
      | ret u =>
        obtain ⟨v, H', os, bare, un, hok', ru, q⟩ := got
        have q : v = .bl true := q
        subst q
        obtain rfl : u = Value.bool true := ru
        refine ⟨rfl, OldK.of_keep fun b o e => ?_, os, bare⟩
        rcases only b with n | ⟨ob, xs, y⟩
        · exact un.keep b o e n (fun z => (nomatch (show b ∈ ([] : List Addr) from z))) (by simp)
        · obtain ⟨g1, _⟩ := hok b _ y
          obtain ⟨g2, _⟩ := hok' b _ (un.frzs b ob _ y)
          rw [e] at g1
          cases g1
          exact g2
  cases hk : K.lookup a with
  | some o =>
    have e := inK a o hk
    rw [obj] at e
    cases e
    refine main (fun _ => none) (fun _ => .inl rfl) (.inr ⟨_, vals.toArray, _, hk, rfl, rfl, rfl, by rw [List.size_toArray, nlen]; exact few, by simpa using rv⟩) (fun b u z => ?_) (fun b z => absurd rfl z) fun z => absurd rfl z
    have z' : (none : Option HO) = some u := z
    cases z'
  | none =>
    let H1 : Hp := fun b => if b = a then some (.frz { cls := .type "list", data := .seq vals.toArray } (.lst (ns.map V.int))) else none
    have at_a : H1 a = some (.frz { cls := .type "list", data := .seq vals.toArray } (.lst (ns.map V.int))) := if_pos rfl
    have off_a : ∀ b, b ≠ a → H1 b = none := fun b hb => if_neg hb
    refine main H1 (fun b => ?_) (.inl (.inr ⟨_, at_a⟩)) (fun b u z => ?_) (fun b z => ?_) fun _ => hk
    · by_cases hb : b = a
      · subst hb; exact .inr ⟨_, _, at_a⟩
      · exact .inl (off_a b hb)
    · by_cases hb : b = a
      · subst hb
        rw [at_a] at z
        cases z
        exact ⟨obj, by rw [List.length_map]; exact few, vals, _, rv, obj⟩
      · rw [off_a b hb] at z; cases z
    · by_cases hb : b = a
      · exact hb
      · exact absurd (off_a b hb) z
theorem walk_G {l : PySem.W.OpenLaw} {n k : Nat} {q : Program} {loose : List Str} {XP : (Str → Option Value) → Heap → Prop} {YP : World → Heap → Prop} {d : DefRec} {K : Params → PySem.W.Frag} {sp : World → Sp} {x : Str}
    (most : l.most = some n) (few : n ≤ sizeLine) (nodfl : d.params.defaults = []) (room : Room k callerA) (inY : ∀ (w : World) (h : Heap), YP w h → (K w.params).In h)
    (fn : ∀ (w : World) (mg : Str → Option Value) (fa : Addr) (h : Heap), (K w.params).In h → h.Ns mainGlobals mg → mg d.name = some (.ref fa) →
      ∀ base : Heap, (K w.params).In base → base.Ns mainGlobals mg → ∃ fd : FuncData, Binds (K w.params) fd [x] [] ∧ FnG l.prog w (K w.params) mg base k fa fd [x] (sp w))
    (want : ∀ (w : World) (H : Hp) (a : Addr) (ns : List Int), ns.length ≤ n → Only H → SqL (K w.params) H a (ns.map V.int) → sp w [.ref a] H (fun v _ => v = .bl true) E0) :
    PySem.W.WalkO q loose XP YP l.row.toRowW d [] (fun f vs => PySem.call f vs) := by
  refine Att.attach_call most nodfl fun w s0 s1 mg mb fa o pm cd doc a vals ns G Y ho hd hcd hmg obj whole len nogen => ?_
  have inK := inY w _ Y
  exact law_callG inK G.T.g G.T.b G.T.builtins G.T.nolimit nogen obj whole (Nat.le_trans len few) room (fn w mg fa _ inK G.T.g hmg) fun H only sq => want w H a ns len only sq
/-- the law's promise, from what the small language computes -/
theorem want_of {K : PySem.W.Frag} {cf : Nat → List D → Option (D × List D)} {i : Nat} {f : Fn} {H : Hp} {a : Addr} {ns : List Int} (h1 : f.ps.length = 1) (hc : cf i [.scr (ns.map .int)] = some (.bl true, [])) (hio : f.io = []) (only : Only H) (sq : SqL K H a (ns.map V.int)) :
    spF K cf i f [.ref a] H (fun v _ => v = .bl true) E0 := by
  have si : SqI K H a (ns.map V.int) := by
    rcases sq with (e | ⟨o, e⟩) | e
    · rcases only a with n | ⟨o, xs, z⟩
      · rw [n] at e; cases e
      · rw [z] at e; cases e
    · exact .inl ⟨o, e⟩
    · exact .inr e
  refine ⟨h1.symm, fun _ => False, fun _ => [], [.scr (ns.map .int)], .bl true, [], ⟨rfl, fun j d e => ?_, fun _ _ => rfl, fun _ => List.nodup_nil, fun _ _ _ _ z => (nomatch z), fun _ _ z => (nomatch z), fun _ z => z.elim⟩, hc, fun v P own' H' ρ' _ _ _ r _ _ => r.1⟩
  match j, e with
  | 0, e =>
    cases e
    exact ⟨_, rfl, a, _, rfl, si, rfl, rps_ints'⟩
end Mn

/-! Mn Z: a Bool check that a text of the small language stands for a text of Python. -/
namespace Mn
open PySem L2
/-! ### parts of a text -/
def disj (A B : List Nat) : Bool := A.all fun j => !B.elem j
theorem disj_ok {A B : List Nat} (h : disj A B = true) : ∀ j, j ∈ A → j ∉ B := fun j hj hb => by
  have := List.all_eq_true.mp h j hj
  rw [List.elem_eq_mem, decide_eq_true hb] at this
  cases this
def within (A B : List Nat) : Bool := A.all fun j => B.elem j
theorem within_ok {A B : List Nat} (h : within A B = true) : ∀ j, j ∈ A → j ∈ B := fun j hj => by
  have := List.all_eq_true.mp h j hj
  rw [List.elem_eq_mem] at this
  exact of_decide_eq_true this
theorem flag_ok {q : Bool} {A B : List Nat} (h : (!q || disj A B) = true) : q = true → ∀ j, j ∈ A → j ∉ B := fun e => by
  subst e
  exact disj_ok (by simpa using h)
def notStar : Expr → Bool
  | .Starred _ _ => false
  | _ => true
theorem notStar_ok {e : Expr} (h : notStar e = true) : ∀ a p, e ≠ .Starred a p := fun a p z => by subst z; cases h
def noStar (es : List Expr) : Bool := es.all notStar
theorem noStar_ok {es : List Expr} (h : noStar es = true) : ∀ e, e ∈ es → ∀ a p, e ≠ .Starred a p := fun e he => notStar_ok (List.all_eq_true.mp h e he)
def notSet : Expr → Bool
  | .Set _ _ _ => false
  | _ => true
theorem notSet_ok {e : Expr} (h : notSet e = true) : ∀ x y z, e ≠ .Set x y z := fun x y z q => by subst q; cases h
theorem notSet_it {e : Expr} (h : notSet e = true) (env : PySem.Env) (x : Value) : foldedSetIterable e env x = pure x := by
  cases e <;> first | rfl | cases h
def notSlice : Expr → Bool
  | .Slice _ _ _ _ => false
  | _ => true
theorem notSlice_ok {e : Expr} (h : notSlice e = true) : ∀ l u st p, e ≠ .Slice l u st p := fun l u st p q => by subst q; cases h
/-- an expression that is taken as a test by its value -/
def plainT : Expr → Bool
  | .UnaryOp .Not _ _ => false
  | .BoolOp _ _ _ => false
  | .IfExp _ _ _ _ => false
  | .Compare _ _ _ _ => false
  | _ => true
theorem plainT_ok {e : Expr} (h : plainT e = true) (env : PySem.Env) (whole : Sem Value) : isTrue e env whole = (do let v ← whole; standAt e.pos; holding [v] (truthy v)) := by
  cases e <;> first | rfl | (cases h; done) | skip
  rename_i op a p
  cases op <;> first | rfl | cases h
def asBin : Expr → Option (Expr × Operator × Expr)
  | .BinOp a o b _ => some (a, o, b)
  | _ => none
theorem asBin_eq {e a b : Expr} {o : Operator} (h : asBin e = some (a, o, b)) : ∃ p, e = .BinOp a o b p := by
  cases e <;> first | (cases h; done) | skip
  cases h; exact ⟨_, rfl⟩
def asUn : Expr → Option (UnaryOp × Expr)
  | .UnaryOp o a _ => some (o, a)
  | _ => none
theorem asUn_eq {e a : Expr} {o : UnaryOp} (h : asUn e = some (o, a)) : ∃ p, e = .UnaryOp o a p := by
  cases e <;> first | (cases h; done) | skip
  cases h; exact ⟨_, rfl⟩
def asCmp1 : Expr → Option (Expr × CmpOp × Expr)
  | .Compare a [o] [b] _ => some (a, o, b)
  | _ => none
theorem asCmp1_eq {e a b : Expr} {o : CmpOp} (h : asCmp1 e = some (a, o, b)) : ∃ p, e = .Compare a [o] [b] p := by
  unfold asCmp1 at h
  split at h <;> first | (cases h; done) | skip
  cases h; exact ⟨_, rfl⟩
def asCmp2 : Expr → Option (Expr × CmpOp × CmpOp × Expr × Expr)
  | .Compare a [o1, o2] [b, c] _ => some (a, o1, o2, b, c)
  | _ => none
theorem asCmp2_eq {e a b c : Expr} {o1 o2 : CmpOp} (h : asCmp2 e = some (a, o1, o2, b, c)) : ∃ p, e = .Compare a [o1, o2] [b, c] p := by
  unfold asCmp2 at h
  split at h <;> first | (cases h; done) | skip
  cases h; exact ⟨_, rfl⟩
def asBool2 : Expr → Option (BoolOp × Expr × Expr)
  | .BoolOp op (a :: b :: rest) p => some (op, a, .BoolOp op (b :: rest) p)
  | _ => none
theorem asBool2_eq {e a r : Expr} {op : BoolOp} (h : asBool2 e = some (op, a, r)) : ∃ b rest p, e = .BoolOp op (a :: b :: rest) p ∧ r = .BoolOp op (b :: rest) p := by
  unfold asBool2 at h
  split at h <;> first | (cases h; done) | skip
  cases h; exact ⟨_, _, _, rfl, rfl⟩
def asBool1 : Expr → Option (BoolOp × Expr)
  | .BoolOp op [a] _ => some (op, a)
  | _ => none
theorem asBool1_eq {e a : Expr} {op : BoolOp} (h : asBool1 e = some (op, a)) : ∃ p, e = .BoolOp op [a] p := by
  unfold asBool1 at h
  split at h <;> first | (cases h; done) | skip
  cases h; exact ⟨_, rfl⟩
def asIfx : Expr → Option (Expr × Expr × Expr)
  | .IfExp c a b _ => some (c, a, b)
  | _ => none
theorem asIfx_eq {e c a b : Expr} (h : asIfx e = some (c, a, b)) : ∃ p, e = .IfExp c a b p := by
  cases e <;> first | (cases h; done) | skip
  cases h; exact ⟨_, rfl⟩
def asTup : Expr → Option (List Expr)
  | .Tuple es _ _ => some es
  | _ => none
theorem asTup_eq {e : Expr} {es : List Expr} (h : asTup e = some es) : ∃ k p, e = .Tuple es k p := by
  cases e <;> first | (cases h; done) | skip
  cases h; exact ⟨_, _, rfl⟩
def asLst : Expr → Option (List Expr)
  | .List es _ => some es
  | _ => none
theorem asLst_eq {e : Expr} {es : List Expr} (h : asLst e = some es) : ∃ p, e = .List es p := by
  cases e <;> first | (cases h; done) | skip
  cases h; exact ⟨_, rfl⟩
def asDct : Expr → Option (List (Option Expr) × List Expr)
  | .Dict ks es _ => some (ks, es)
  | _ => none
theorem asDct_eq {e : Expr} {ks : List (Option Expr)} {es : List Expr} (h : asDct e = some (ks, es)) : ∃ p, e = .Dict ks es p := by
  cases e <;> first | (cases h; done) | skip
  cases h; exact ⟨_, rfl⟩
def asSub : Expr → Option (Expr × Expr)
  | .Subscript a b _ => some (a, b)
  | _ => none
theorem asSub_eq {e a b : Expr} (h : asSub e = some (a, b)) : ∃ p, e = .Subscript a b p := by
  cases e <;> first | (cases h; done) | skip
  cases h; exact ⟨_, rfl⟩
def asSli : Expr → Option (Expr × Option Expr × Option Expr)
  | .Subscript a (.Slice lo hi none _) _ => some (a, lo, hi)
  | _ => none
theorem asSli_eq {e a : Expr} {lo hi : Option Expr} (h : asSli e = some (a, lo, hi)) : ∃ p p2, e = .Subscript a (.Slice lo hi none p2) p := by
  unfold asSli at h
  split at h <;> first | (cases h; done) | skip
  cases h; exact ⟨_, _, rfl⟩
def asRev : Expr → Option Expr
  | .Subscript a (.Slice none none (some (.UnaryOp .USub (.Constant (.int 1) _ _) _)) _) _ => some a
  | _ => none
theorem asRev_eq {e a : Expr} (h : asRev e = some a) : ∃ k p1 p2 p3 p, e = .Subscript a (.Slice none none (some (.UnaryOp .USub (.Constant (.int 1) k p1) p2)) p3) p := by
  unfold asRev at h
  split at h <;> first | (cases h; done) | skip
  cases h; exact ⟨_, _, _, _, _, rfl⟩
def asName : Expr → Option Str
  | .Name x _ => some x
  | _ => none
theorem asName_eq {e : Expr} {x : Str} (h : asName e = some x) : ∃ p, e = .Name x p := by
  cases e <;> first | (cases h; done) | skip
  cases h; exact ⟨_, rfl⟩
def asConst : Expr → Option Const
  | .Constant c _ _ => some c
  | _ => none
theorem asConst_eq {e : Expr} {c : Const} (h : asConst e = some c) : ∃ k p, e = .Constant c k p := by
  cases e <;> first | (cases h; done) | skip
  cases h; exact ⟨_, _, rfl⟩
def asCall : Expr → Option (Str × List Expr)
  | .Call (.Name x _) args [] _ => some (x, args)
  | _ => none
theorem asCall_eq {e : Expr} {x : Str} {args : List Expr} (h : asCall e = some (x, args)) : ∃ p q, e = .Call (.Name x p) args [] q := by
  unfold asCall at h
  split at h <;> first | (cases h; done) | skip
  cases h; exact ⟨_, _, rfl⟩
def asCallK : Expr → Option (Str × List Expr × List Keyword)
  | .Call (.Name x _) args kws _ => some (x, args, kws)
  | _ => none
theorem asCallK_eq {e : Expr} {x : Str} {args : List Expr} {kws : List Keyword} (h : asCallK e = some (x, args, kws)) : ∃ p q, e = .Call (.Name x p) args kws q := by
  unfold asCallK at h
  split at h <;> first | (cases h; done) | skip
  cases h; exact ⟨_, _, rfl⟩
/-- f(a, default=c) -/
def asMxd : Expr → Option (Str × Expr × Str × Const)
  | .Call (.Name x _) [a] [⟨some k, .Constant c _ _, _⟩] _ => some (x, a, k, c)
  | _ => none
theorem asMxd_eq {e a : Expr} {x k : Str} {c : Const} (h : asMxd e = some (x, a, k, c)) : ∃ p q j cp kp, e = .Call (.Name x p) [a] [⟨some k, .Constant c j cp, kp⟩] q := by
  unfold asMxd at h
  split at h <;> first | (cases h; done) | skip
  cases h; exact ⟨_, _, _, _, _, rfl⟩
/-- o.m(..) on one line, o a name or a subscript -/
def asMeth : Expr → Option (Expr × Str × List Expr)
  | .Call (.Attribute o m p) args [] q => if p.endLine == q.line then some (o, m, args) else none
  | _ => none
theorem asMeth_eq {e o : Expr} {m : Str} {args : List Expr} (h : asMeth e = some (o, m, args)) : ∃ p q, e = .Call (.Attribute o m p) args [] q ∧ (p.endLine == q.line) = true := by
  unfold asMeth at h
  split at h <;> first | (cases h; done) | skip
  split at h
  · rename_i hl
    cases h; exact ⟨_, _, rfl, hl⟩
  · cases h
def plainO : Expr → Bool
  | .Call _ _ _ _ => false
  | _ => true
theorem plainO_ok {o : Expr} {m : Str} (h : plainO o = true) (env : PySem.Env) : attributeBase o m env (eval o env) = eval o env := by
  cases o <;> first | rfl | cases h
def asLC : Expr → Option (Expr × Expr × Expr × List Expr × Scope)
  | .ListComp elt [⟨tg, it, ifs, 0⟩] scope _ => some (elt, tg, it, ifs, scope)
  | _ => none
theorem asLC_eq {e elt tg it : Expr} {ifs : List Expr} {scope : Scope} (h : asLC e = some (elt, tg, it, ifs, scope)) : ∃ p, e = .ListComp elt [⟨tg, it, ifs, 0⟩] scope p := by
  unfold asLC at h
  split at h <;> first | (cases h; done) | skip
  cases h; exact ⟨_, rfl⟩
def opIs : BOp → Operator → Bool
  | .add, .Add => true | .sub, .Sub => true | .mul, .Mult => true | .fdiv, .FloorDiv => true | .mod, .Mod => true | .pow, .Pow => true | .shl, .LShift => true | .shr, .RShift => true | .band, .BitAnd => true | .bor, .BitOr => true
  | _, _ => false
theorem opIs_eq {a : BOp} {b : Operator} (h : opIs a b = true) : b = a.py := by
  cases a <;> cases b <;> first | rfl | cases h
def cpIs : COp → CmpOp → Bool
  | .eq, .Eq => true | .ne, .NotEq => true | .lt, .Lt => true | .le, .LtE => true | .gt, .Gt => true | .ge, .GtE => true | .inn, .In => true | .nin, .NotIn => true | .is, .Is => true | .isn, .IsNot => true
  | _, _ => false
theorem cpIs_eq {a : COp} {b : CmpOp} (h : cpIs a b = true) : b = a.py := by
  cases a <;> cases b <;> first | rfl | cases h
mutual
def sameD : D → D → Bool
  | .non, .non => true | .bl a, .bl b => a == b | .int i, .int j => i == j | .str s, .str t => s == t
  | .tup xs, .tup ys => sameDs xs ys | .scr xs, .scr ys => sameDs xs ys
  | _, _ => false
def sameDs : List D → List D → Bool
  | [], [] => true
  | x :: xs, y :: ys => sameD x y && sameDs xs ys
  | _, _ => false
end
mutual
theorem sameD_eq : ∀ {a b : D}, sameD a b = true → a = b
  | .non, b, h => by cases b <;> first | rfl | cases h
  | .bl a, b, h => by cases b <;> first | (cases h; done) | exact congrArg D.bl (eq_of_beq h)
  | .int a, b, h => by cases b <;> first | (cases h; done) | exact congrArg D.int (eq_of_beq h)
  | .str a, b, h => by cases b <;> first | (cases h; done) | exact congrArg D.str (eq_of_beq h)
  | .tup a, b, h => by cases b <;> first | (cases h; done) | exact congrArg D.tup (sameDs_eq h)
  | .scr a, b, h => by cases b <;> first | (cases h; done) | exact congrArg D.scr (sameDs_eq h)
  | .lst _ _, b, h => by cases b <;> cases h
  | .dk _ _ _, b, h => by cases b <;> cases h
  | .ins _ _ _ _, b, h => by cases b <;> cases h
theorem sameDs_eq : ∀ {a b : List D}, sameDs a b = true → a = b
  | [], b, h => by cases b <;> first | rfl | cases h
  | x :: xs, b, h => by
    cases b with
    | nil => cases h
    | cons y ys =>
      have h' := (Bool.and_eq_true _ _).mp h
      rw [sameD_eq h'.1, sameDs_eq h'.2]
end
/-! ### the check -/
structure Ck where
  N : List Str
  sc : Scope
  fn : Str → Bool
  fns : List Fn
  blt : List Str
  gl : List (Str × D)
def Ck.blk (c : Ck) (scope : Scope) : Ck := { c with sc := relS c.sc scope, fn := fun x => scope.names.lookup x == some .cell }
structure CkOk (P : Program) (w : World) (K : PySem.W.Frag) (mg : Str → Option Value) (base : Heap) (cf : Nat → List D → Option (D × List D)) (c : Ck) (L : Lx) : Prop where
  N : L.N = c.N
  sc : L.sc = c.sc
  fn : L.fn = c.fn
  nd : c.N.Nodup
  call : ∀ (j : Nat) (g : Fn), c.fns[j]? = some g → CallOk P w K mg base cf L.k j g ∧ StrsOk g.dfl
  blt : ∀ x, x ∈ c.blt → mg x = none
  gl : ∀ x d, (x, d) ∈ c.gl → GlobOk K mg x d
def visK : Option NameKind → Bool
  | some .local => true | some .cell => true | some .free => true
  | _ => false
def Ck.nm (c : Ck) (i : Nat) (x : Str) : Bool := (c.N[i]? == some x) && visK (c.sc.names.lookup x) && !(x == ("__debug__" : Str)) && !(x == ("__classdict__" : Str))
def isGl : Option NameKind → Bool
  | some .globalImplicit => true
  | _ => false
def Ck.g (c : Ck) (x : Str) : Bool := isGl (c.sc.names.lookup x) && !(x == ("__debug__" : Str))
def Ck.b (c : Ck) (x : Str) : Bool := c.g x && c.blt.elem x
def locK : Option NameKind → Bool
  | some .local => true
  | _ => false
def celK : Option NameKind → Bool
  | some .cell => true
  | _ => false
/-- a name that may be stored -/
def Ck.st (c : Ck) (i : Nat) (x : Str) : Bool := (c.N[i]? == some x) && (locK (c.sc.names.lookup x) || (celK (c.sc.names.lookup x) && c.fn x))
def BI.has : BI → Bool
  | .sortset => false | .lenset => false | .listrange => false
  | _ => true
def pm (m : Nat) (e : Expr) : Bool := m == 0 || (m == 1 && plainT e)
def Es.isNil : Es → Bool
  | .nil => true
  | _ => false
theorem Es.isNil_eq : ∀ {es : Es}, es.isNil = true → es = .nil
  | .nil, _ => rfl
  | .cons _ _ _, h => by cases h
  | .io _ _, h => by cases h
/-- d.get(k, constant) -/
def get2C (k : MT) (q : Bool) (o : E) (es : Es) (xs : List Expr) : Bool := (k == .get2) && (match es, xs with
  | .cons _ ik (.cons _ (.cst z) .nil), [_, f] => (match asConst f with | some c => (match constD c with | some d => sameD z d | none => false) | none => false) && (!q || disj o.U ik.W)
  | _, _ => false)
theorem get2C_ok {k : MT} {q : Bool} {o : E} {es : Es} {xs : List Expr} (h : get2C k q o es xs = true) : k = .get2 ∧ ∃ q1 q2 ik z e c j p, es = .cons q1 ik (.cons q2 (.cst z) .nil) ∧ xs = [e, .Constant c j p] ∧ constD c = some z ∧ (q = true → ∀ j, j ∈ o.U → j ∉ ik.W) := by
  unfold get2C at h
  obtain ⟨h1, h⟩ := (Bool.and_eq_true _ _).mp h
  refine ⟨eq_of_beq h1, ?_⟩
  split at h
  · rename_i q1 ik q2 z e f h0
    obtain ⟨h2, h3⟩ := (Bool.and_eq_true _ _).mp h
    cases hx : asConst f with
    | none => simp [hx] at h2
    | some c =>
      obtain ⟨j, p, rfl⟩ := asConst_eq hx
      simp only [hx] at h2
      cases hk : constD c with
      | none => simp [hk] at h2
      | some d =>
        simp only [hk] at h2
        have := sameD_eq h2
        subst this
        exact ⟨_, _, _, _, _, _, _, _, rfl, rfl, hk, flag_ok h3⟩
  · cases h
def tysE (c : Ck) : List Ty → List Expr → Bool
  | [], [] => true
  | t :: ts, e :: es => (match asName e with | some x => (x == Str.ofString t.nm) && c.b x && !(t == .none) | none => false) && tysE c ts es
  | _, _ => false
def ownN (N : List Str) (own : List Nat) : List (Str × Nat) := own.filterMap fun j => (N[j]?).map fun x => (x, j)
mutual
def chkE (c : Ck) : E → Nat → Expr → Bool
  | .nm i, m, e => pm m e && (match asName e with | some x => c.nm i x | none => false)
  | .mv i, m, e => pm m e && (match asName e with | some x => c.nm i x | none => false)
  | .cst d, m, e => pm m e && (match asConst e with | some k => (match constD k with | some d' => sameD d d' | none => false) | none => false)
  | .glob x d, m, e => pm m e && (match asName e with | some y => (y == x) && c.g x && c.gl.any (fun p => (p.1 == x) && sameD p.2 d) | none => false)
  | .bin op q a b, m, e => pm m e && (match asBin e with | some (a', o, b') => opIs op o && (!q || disj a.U b.W) && chkE c a 0 a' && chkE c b 0 b' | none => false)
  | .neg a, m, e => pm m e && (match asUn e with | some (.USub, a') => chkE c a 0 a' | _ => false)
  | .cmp op q a b, m, e => (m == 0 || m == 1) && (match asCmp1 e with | some (a', o, b') => cpIs op o && notSet b' && (!q || disj a.U b.W) && chkE c a 0 a' && chkE c b 0 b' | none => false)
  | .chn o1 o2 q1 q2 a b d, m, e => (m == 0 || m == 1) && (match asCmp2 e with | some (a', p1, p2, b', d') => cpIs o1 p1 && cpIs o2 p2 && !(lastMarks [o1.py, o2.py] [b', d']) && (!q1 || disj a.U b.W) && chkE c a 0 a' && chkE c b 0 b' && chkE c d 0 d' | none => false)
  | .and a b, m, e => (match asBool2 e with | some (.And, a', r) => if m == 0 then chkE c a 0 a' && chkE c b 0 r else (m == 1 || m == 2) && chkE c a 1 a' && chkE c b 2 r | _ => false)
  | .or a b, m, e => (match asBool2 e with | some (.Or, a', r) => if m == 0 then chkE c a 0 a' && chkE c b 0 r else (m == 1 || m == 2) && chkE c a 1 a' && chkE c b 2 r | _ => false)
  | .shr a, m, e => m == 0 && chkE c a 0 e
  | .srt a, m, e => pm m e && (match asCall e with | some (x, [e2]) => (match asCall e2 with | some (y, [a']) => (x == Str.ofString "sorted") && (c.b x && ((y == Str.ofString "set") && (c.b y && (notStar a' && chkE c a 0 a')))) | _ => false) | _ => false)
  | .mxd mn a d, m, e => pm m e && (match asMxd e with | some (x, a', k, c0) => (x == Str.ofString (if mn then "min" else "max")) && (c.b x && ((k == Str.ofString "default") && ((match constD c0 with | some d' => sameD d d' | none => false) && (notStar a' && chkE c a 0 a')))) | none => false)
  | .callk i n ks arr dfl es es2, m, e => pm m e && (match asCallK e with | some (x, xs, kws) => (match c.fns[i]? with | some g => (g.name == x) && (c.g x && (g.io.isEmpty && (es.ios.isEmpty && (es2.ios.isEmpty && (es2.W.isEmpty && (g.kws.elem (n, ks, arr) && ((arr.length == g.ps.length) && (!arr.isEmpty && ((kws.map (·.arg) == ks.map some) && (sameDs dfl g.dfl && (noStar xs && ((!xs.isEmpty || es.isNil) && (chkEs c es xs && chkKs c es2 kws))))))))))))) | none => false) | none => false)
  | .ixc i b, m, e => pm m e && (match asSub e with | some (a', b') => notSlice b' && (match asName a' with | some x => c.nm i x | none => false) && chkE c b 0 b' | none => false)
  | .one a, m, e => (match asBool1 e with | some (_, a') => if m == 0 then chkE c a 0 a' else (m == 1 || m == 2) && chkE c a 1 a' | _ => false)
  | .not a, m, e => (match asUn e with | some (.Not, a') => if m == 0 then chkE c a 0 a' else (m == 1) && chkE c a 1 a' | _ => false)
  | .ifx t a b, m, e => (m == 0) && (match asIfx e with | some (t', a', b') => chkE c t 1 t' && chkE c a 0 a' && chkE c b 0 b' | none => false)
  | .tup es, m, e => pm m e && (match asTup e with | some xs => es.ios.isEmpty && chkEs c es xs | none => false)
  | .lst es, m, e => pm m e && (match asLst e with | some xs => es.ios.isEmpty && chkEs c es xs | none => false)
  | .dct ks es, m, e => pm m e && (match asDct e with | some (kes, xs) => (ks.isEmpty && kes.isEmpty && xs.isEmpty && es.isNil) || keysE ks kes && (ks.length == xs.length) && decide ks.Nodup && !ks.isEmpty && decide (ks.length ≤ 15) && es.ios.isEmpty && chkEs c es xs | none => false)
  | .ix q a b, m, e => pm m e && (match asSub e with | some (a', b') => notSlice b' && (!q || disj a.U b.W) && chkE c a 0 a' && chkE c b 0 b' | none => false)
  | .sl q q2 a lo hi, m, e => pm m e && (match asSli e with | some (a', lo', hi') => (!q || disj a.U (lo.W ++ hi.W)) && chkE c a 0 a' && chkO c lo lo' && chkO c hi hi' | none => false)
  | .rev a, m, e => pm m e && (match asRev e with | some a' => chkE c a 0 a' | none => false)
  | .call q i es, m, e => pm m e && (match asCall e with | some (x, xs) => (match c.fns[i]? with | some g => (g.name == x) && c.g x && (es.ioPos 0 == g.io) && decide es.ios.Nodup && (!q || disj es.U es.ios) && noStar xs && chkEs c es xs | none => false) | none => false)
  | .bi b es, m, e => pm m e && (match asCall e with | some (x, xs) => b.has && (x == Str.ofString b.name) && c.b x && es.ios.isEmpty && !xs.isEmpty && noStar xs && chkEs c es xs | none => false)
  | .mt k q o es, m, e => pm m e && (match asMeth e with | some (o', n, xs) => (k.has || get2C k q o es xs) && (n == Str.ofString k.name) && plainO o' && es.ios.isEmpty && !xs.isEmpty && decide (xs.length < 30) && noStar xs && chkE c o 0 o' && chkEs c es xs | none => false)
  | .mu k p es, m, e => pm m e && (match asMeth e with | some (o', n, xs) => !(k == .update) && (n == Str.ofString k.name) && plainO o' && es.ios.isEmpty && disj [p.slot] p.W && disj [p.slot] es.W && decide (xs.length < 30) && noStar xs && chkP c p o' && chkEs c es xs | none => false)
  | .isi a cs, m, e => pm m e && (match asCall e with | some (x, [a', t]) => (x == Str.ofString "isinstance") && c.b x && notStar a' && chkE c a 0 a' && (match asTup t with | some ts => decide (ts.length ≤ 1000) && tysE c cs ts | none => (cs.length == 1) && tysE c cs [t]) | _ => false)
  | .lc own q q2 t vs it ifs elt, m, e => (pm m e || m == 3) && (match asLC e with | some (elt', tg, it', ifs', scope) => ((ownN c.N own).map (·.2) == own) && blkC c.N c.sc scope (ownN c.N own) && within t.A own && within it.U vs && (!q || disj it.U (own ++ (t.W ++ (ifs.W ++ elt.W)))) && (!q2 || disj elt.U (own ++ (t.W ++ (ifs.W ++ elt.W)))) && notSet it' && chkI c it tg it' && chkT (c.blk scope) t tg && chkIf (c.blk scope) ifs ifs' && chkE (c.blk scope) elt 0 elt' | none => false)
def chkO (c : Ck) : E1 → Option Expr → Bool
  | .no, none => true
  | .yes a, some e => chkE c a 0 e
  | _, _ => false
def chkIf (c : Ck) : E1 → List Expr → Bool
  | .no, [] => true
  | .yes a, [e] => chkE c a 1 e
  | _, _ => false
def chkEs (c : Ck) : Es → List Expr → Bool
  | .nil, [] => true
  | .cons q a es, e :: xs => notStar e && (!q || disj a.U es.W) && chkE c a 0 e && chkEs c es xs
  | .io i es, e :: xs => (match asName e with | some x => c.nm i x | none => false) && chkEs c es xs
  | _, _ => false
def chkKs (c : Ck) : Es → List Keyword → Bool
  | .nil, [] => true
  | .cons q a es, k :: kws => (!q || disj a.U es.W) && (chkE c a 0 k.value && chkKs c es kws)
  | _, _ => false
def chkI (c : Ck) : I → Expr → Expr → Bool
  | .seq a, _, e => chkE c a 0 e
  | .rng1 a, _, e => (match asCall e with | some (x, [a']) => (x == Str.ofString "range") && c.b x && notStar a' && chkE c a 0 a' | _ => false)
  | .rng2 a b, _, e => (match asCall e with | some (x, [a', b']) => (x == Str.ofString "range") && c.b x && notStar a' && notStar b' && chkE c a 0 a' && chkE c b 0 b' | _ => false)
  | .enum a, tg, e => (asTup tg).isSome && (match asCall e with | some (x, [a']) => (x == Str.ofString "enumerate") && c.b x && notStar a' && chkE c a 0 a' | _ => false)
  | .zip q a b, tg, e => (asTup tg).isSome && (match asCall e with | some (x, [a', b']) => (x == Str.ofString "zip") && c.b x && notStar a' && notStar b' && (!q || disj a.U b.W) && chkE c a 0 a' && chkE c b 0 b' | _ => false)
def chkP (c : Ck) : Pth → Expr → Bool
  | .sl i, e => (match asName e with | some x => c.nm i x | none => false)
  | .ix p b, e => (match asSub e with | some (a', b') => disj [p.slot] p.W && disj [p.slot] b.W && notSlice b' && chkP c p a' && chkE c b 0 b' | none => false)
def chkT (c : Ck) : T → Expr → Bool
  | .nm i, e => (match asName e with | some x => c.st i x | none => false)
  | .tup ts, e => (match asTup e with | some xs => noStar xs && (ts.len == xs.length) && chkTs c ts xs | none => false)
  | .sub p b, e => (match asSub e with | some (a', b') => disj [p.slot] p.W && disj [p.slot] b.W && notSlice b' && chkP c p a' && chkE c b 0 b' | none => false)
def chkTs (c : Ck) : Ts → List Expr → Bool
  | .nil, [] => true
  | .cons t ts, e :: xs => notStar e && chkT c t e && chkTs c ts xs
  | _, _ => false
end
end Mn

/-! Mn Za: the check of expressions is sound. -/
namespace Mn
open PySem L2
theorem and2 {a b : Bool} (h : (a && b) = true) : a = true ∧ b = true := (Bool.and_eq_true _ _).mp h
/-- each argument by itself -/
def EsAll (P : Program) (w : World) (K : PySem.W.Frag) (mg : Str → Option Value) (base : Heap) (cf : Nat → List D → Option (D × List D)) (L : Lx) : List Expr → Es → Prop
  | e :: es, .cons _ a as => EOk P w K mg base cf L e a ∧ EsAll P w K mg base cf L es as
  | _, _ => True
section
variable {P : Program} {w : World} {K : PySem.W.Frag} {mg : Str → Option Value} {base : Heap} {cf : Nat → List D → Option (D × List D)} {c : Ck} {L : Lx}
theorem CkOk.vis (h : CkOk P w K mg base cf c L) {i : Nat} {x : Str} (e : c.nm i x = true) : L.N[i]? = some x ∧ Vis L.sc x ∧ (x == ("__debug__" : Str)) = false ∧ (x == ("__classdict__" : Str)) = false := by
  replace e := and2 e
  obtain ⟨e, h4⟩ := e
  replace e := and2 e
  obtain ⟨e, h3⟩ := e
  replace e := and2 e
  obtain ⟨h1, h2⟩ := e
  rw [h.N, h.sc]
  refine ⟨eq_of_beq h1, ?_, by simpa using h3, by simpa using h4⟩
  unfold Vis
  generalize c.sc.names.lookup x = o at h2 ⊢
  cases o with
  | none => cases h2
  | some k => cases k <;> first | exact .inl rfl | exact .inr (.inl rfl) | exact .inr (.inr rfl) | cases h2
theorem CkOk.gx (h : CkOk P w K mg base cf c L) {x : Str} (e : c.g x = true) : L.sc.names.lookup x = some .globalImplicit ∧ (x == ("__debug__" : Str)) = false := by
  replace e := and2 e
  obtain ⟨h1, h2⟩ := e
  rw [h.sc]
  refine ⟨?_, by simpa using h2⟩
  generalize c.sc.names.lookup x = o at h1 ⊢
  cases o with
  | none => cases h1
  | some k => cases k <;> first | rfl | cases h1
theorem CkOk.bx (h : CkOk P w K mg base cf c L) {x : Str} (e : c.b x = true) : L.sc.names.lookup x = some .globalImplicit ∧ mg x = none := by
  replace e := and2 e
  obtain ⟨h1, h2⟩ := e
  rw [List.elem_eq_mem] at h2
  exact ⟨(h.gx h1).1, h.blt x (of_decide_eq_true h2)⟩
theorem CkOk.stx (h : CkOk P w K mg base cf c L) {i : Nat} {x : Str} (e : c.st i x = true) : L.N.Nodup ∧ L.N[i]? = some x ∧ L2.Loc L.sc x ∧ (L.fn x = true ∨ L.sc.names.lookup x = some .local) := by
  replace e := and2 e
  obtain ⟨h1, h2⟩ := e
  rw [h.N, h.sc, h.fn]
  refine ⟨h.nd, eq_of_beq h1, ?_⟩
  unfold L2.Loc
  rcases (Bool.or_eq_true _ _).mp h2 with h2 | h2
  · generalize c.sc.names.lookup x = o at h2 ⊢
    cases o with
    | none => cases h2
    | some k => cases k <;> first | exact ⟨.inl rfl, .inr rfl⟩ | cases h2
  · obtain ⟨h2, h3⟩ := and2 h2
    generalize c.sc.names.lookup x = o at h2 ⊢
    cases o with
    | none => cases h2
    | some k => cases k <;> first | exact ⟨.inr rfl, .inl h3⟩ | cases h2
theorem CkOk.blk (h : CkOk P w K mg base cf c L) (scope : Scope) : CkOk P w K mg base cf (c.blk scope) (L.blk scope) :=
  ⟨h.N, by show relS L.sc scope = relS c.sc scope; rw [h.sc], rfl, h.nd, h.call, h.blt, h.gl⟩
/-- a comprehension, part by part -/
def LcP (P : Program) (w : World) (K : PySem.W.Frag) (mg : Str → Option Value) (base : Heap) (cf : Nat → List D → Option (D × List D)) (L : Lx) (e : Expr) (ir : E) : Prop := ∃ (elt tg it : Expr) (ifs : List Expr) (scope : Scope) (pos : Pos) (own : List (Str × Nat)) (q q2 : Bool) (t : T) (vs : List Nat) (ii : I) (ic : E1) (ie : E),
  e = .ListComp elt [⟨tg, it, ifs, 0⟩] scope pos ∧ ir = .lc (own.map (·.2)) q q2 t vs ii ic ie ∧ L.N.Nodup ∧ BlkOk L.N L.sc scope own ∧ IOk P w K mg base cf L tg it ii ∧ TgOk P w K mg base cf (L.blk scope) tg t ∧ IfOk P w K mg base cf (L.blk scope) ifs ic ∧ EOk P w K mg base cf (L.blk scope) elt ie ∧
  (∀ j, j ∈ t.A → j ∈ own.map (·.2)) ∧ (∀ j, j ∈ ii.U → j ∈ vs) ∧ (q = true → ∀ j, j ∈ ii.U → j ∉ own.map (·.2) ++ (t.W ++ (ic.W ++ ie.W))) ∧ (q2 = true → ∀ j, j ∈ ie.U → j ∉ own.map (·.2) ++ (t.W ++ (ic.W ++ ie.W))) ∧ ∀ env x, foldedSetIterable it env x = pure x
def MOk (P : Program) (w : World) (K : PySem.W.Frag) (mg : Str → Option Value) (base : Heap) (cf : Nat → List D → Option (D × List D)) (L : Lx) (m : Nat) (e : Expr) (ir : E) : Prop := match m with
  | 0 => EOk P w K mg base cf L e ir
  | 1 => TOk P w K mg base cf L e ir
  | 2 => WOk P w K mg base cf L e ir
  | _ => LcP P w K mg base cf L e ir
theorem mok_of {m : Nat} {e : Expr} {ir : E} (h : EOk P w K mg base cf L e ir) (hm : pm m e = true) : MOk P w K mg base cf L m e ir := by
  rcases (Bool.or_eq_true _ _).mp hm with hm | hm
  · have e := eq_of_beq hm
    subst e
    exact h
  · obtain ⟨h1, h2⟩ := and2 hm
    have e := eq_of_beq h1
    subst e
    exact ok_truth h (plainT_ok h2)
theorem tysE_ok (h : CkOk P w K mg base cf c L) : ∀ {cs : List Ty} {es : List Expr}, tysE c cs es = true → ∃ l : List (Ty × Pos), cs = l.map (·.1) ∧ es = l.map (fun p => Expr.Name (Str.ofString p.1.nm) p.2) ∧ ∀ p, p ∈ l → p.1 ≠ .none ∧ L.sc.names.lookup (Str.ofString p.1.nm) = some .globalImplicit ∧ mg (Str.ofString p.1.nm) = none
  | [], [], _ => ⟨[], rfl, rfl, fun _ z => nomatch z⟩
  | [], _ :: _, e => by cases e
  | _ :: _, [], e => by cases e
  | t :: ts, x :: xs, e => by
    replace e := and2 e
    obtain ⟨e1, e2⟩ := e
    obtain ⟨l, h1, h2, h3⟩ := tysE_ok h e2
    cases hn : asName x with
    | none => rw [hn] at e1; cases e1
    | some y =>
      rw [hn] at e1
      obtain ⟨p, rfl⟩ := asName_eq hn
      replace e1 := and2 e1
      obtain ⟨e1, e3⟩ := e1
      replace e1 := and2 e1
      obtain ⟨e1, e4⟩ := e1
      have ey := eq_of_beq e1
      subst ey
      obtain ⟨g1, g2⟩ := h.bx e4
      refine ⟨(t, p) :: l, by simp [h1], by simp [h2], fun q hq => ?_⟩
      rcases List.mem_cons.mp hq with rfl | hq
      · refine ⟨fun z => ?_, g1, g2⟩
        have z : t = .none := z
        subst z
        cases e3
      · exact h3 q hq
theorem bi_boot (b : BI) (h : b.has = true) : bootBuiltins (Str.ofString b.name) = some b.val ∧ Str.ofString b.name ≠ "__name__" ∧ (Str.ofString b.name == ("__debug__" : Str)) = false := by
  cases b <;> first | (cases h; done) | exact ⟨by decide +kernel, by decide +kernel, by decide +kernel⟩
theorem ownN_ix {N : List Str} {own : List Nat} : True := trivial
end
section
variable {P : Program} {w : World} {K : PySem.W.Frag} {mg : Str → Option Value} {base : Heap} {cf : Nat → List D → Option (D × List D)}
mutual
theorem chkE_ok : ∀ (ir : E) {c : Ck} {L : Lx} {m : Nat} {e : Expr}, CkOk P w K mg base cf c L → chkE c ir m e = true → MOk P w K mg base cf L m e ir
  | .nm i, c, L, m, e, H, h => by
    rw [chkE] at h
    replace h := and2 h
    obtain ⟨hm, h⟩ := h
    cases hx : asName e with
    | none => simp [hx] at h
    | some x =>
      simp only [hx] at h
      obtain ⟨p, rfl⟩ := asName_eq hx
      obtain ⟨h1, h2, h3, h4⟩ := H.vis h
      exact mok_of (ok_nm h1 h2 h3 h4) hm
  | .mv i, c, L, m, e, H, h => by
    rw [chkE] at h
    replace h := and2 h
    obtain ⟨hm, h⟩ := h
    cases hx : asName e with
    | none => simp [hx] at h
    | some x =>
      simp only [hx] at h
      obtain ⟨p, rfl⟩ := asName_eq hx
      obtain ⟨h1, h2, h3, h4⟩ := H.vis h
      exact mok_of (ok_mv h1 h2 h3 h4) hm
  | .cst d, c, L, m, e, H, h => by
    rw [chkE] at h
    replace h := and2 h
    obtain ⟨hm, h⟩ := h
    cases hx : asConst e with
    | none => simp [hx] at h
    | some k =>
      simp only [hx] at h
      obtain ⟨j, p, rfl⟩ := asConst_eq hx
      cases hk : constD k with
      | none => simp [hk] at h
      | some d' =>
        simp only [hk] at h
        have ed := sameD_eq h
        subst ed
        exact mok_of (ok_cst hk) hm
  | .glob x d, c, L, m, e, H, h => by
    rw [chkE] at h
    replace h := and2 h
    obtain ⟨hm, h⟩ := h
    cases hx : asName e with
    | none => simp [hx] at h
    | some y =>
      simp only [hx] at h
      obtain ⟨p, rfl⟩ := asName_eq hx
      replace h := and2 h
      obtain ⟨h, h3⟩ := h
      replace h := and2 h
      obtain ⟨h1, h2⟩ := h
      have ey := eq_of_beq h1
      subst ey
      obtain ⟨q, hq, h4⟩ := List.any_eq_true.mp h3
      replace h4 := and2 h4
      obtain ⟨h5, h6⟩ := h4
      have e1 := eq_of_beq h5
      have e2 := sameD_eq h6
      obtain ⟨q1, q2⟩ := q
      subst e1 e2
      obtain ⟨g1, g2⟩ := H.gx h2
      exact mok_of (ok_glob g1 (H.gl _ _ hq) g2) hm
  | .bin op q a b, c, L, m, e, H, h => by
    rw [chkE] at h
    replace h := and2 h
    obtain ⟨hm, h⟩ := h
    cases hx : asBin e with
    | none => simp [hx] at h
    | some r =>
      obtain ⟨a', o, b'⟩ := r
      simp only [hx] at h
      obtain ⟨p, rfl⟩ := asBin_eq hx
      replace h := and2 h
      obtain ⟨h, h4⟩ := h
      replace h := and2 h
      obtain ⟨h, h3⟩ := h
      replace h := and2 h
      obtain ⟨h1, h2⟩ := h
      have eo := opIs_eq h1
      subst eo
      exact mok_of (ok_bin (chkE_ok a (m := 0) H h3) (chkE_ok b (m := 0) H h4) (flag_ok h2)) hm
  | .neg a, c, L, m, e, H, h => by
    rw [chkE] at h
    replace h := and2 h
    obtain ⟨hm, h⟩ := h
    cases hx : asUn e with
    | none => simp [hx] at h
    | some r =>
      obtain ⟨o, a'⟩ := r
      simp only [hx] at h
      obtain ⟨p, rfl⟩ := asUn_eq hx
      cases o <;> first | (simp at h; done) | skip
      exact mok_of (ok_neg (chkE_ok a (m := 0) H h)) hm
  | .cmp op q a b, c, L, m, e, H, h => by
    rw [chkE] at h
    replace h := and2 h
    obtain ⟨hm, h⟩ := h
    cases hx : asCmp1 e with
    | none => simp [hx] at h
    | some r =>
      obtain ⟨a', o, b'⟩ := r
      simp only [hx] at h
      obtain ⟨p, rfl⟩ := asCmp1_eq hx
      replace h := and2 h
      obtain ⟨h, h5⟩ := h
      replace h := and2 h
      obtain ⟨h, h4⟩ := h
      replace h := and2 h
      obtain ⟨h, h3⟩ := h
      replace h := and2 h
      obtain ⟨h1, h2⟩ := h
      have eo := cpIs_eq h1
      subst eo
      rcases (Bool.or_eq_true _ _).mp hm with hm | hm
      · have em := eq_of_beq hm
        subst em
        exact ok_cmp (chkE_ok a (m := 0) H h4) (chkE_ok b (m := 0) H h5) (flag_ok h3) (notSet_ok h2)
      · have em := eq_of_beq hm
        subst em
        exact ok_cmpT (chkE_ok a (m := 0) H h4) (chkE_ok b (m := 0) H h5) (flag_ok h3) (notSet_ok h2)
  | .chn o1 o2 q1 q2 a b d, c, L, m, e, H, h => by
    rw [chkE] at h
    replace h := and2 h
    obtain ⟨hm, h⟩ := h
    cases hx : asCmp2 e with
    | none => simp [hx] at h
    | some r =>
      obtain ⟨a', p1, p2, b', d'⟩ := r
      simp only [hx] at h
      obtain ⟨p, rfl⟩ := asCmp2_eq hx
      replace h := and2 h
      obtain ⟨h, h7⟩ := h
      replace h := and2 h
      obtain ⟨h, h6⟩ := h
      replace h := and2 h
      obtain ⟨h, h5⟩ := h
      replace h := and2 h
      obtain ⟨h, h4⟩ := h
      replace h := and2 h
      obtain ⟨h, h3⟩ := h
      replace h := and2 h
      obtain ⟨h1, h2⟩ := h
      have eo := cpIs_eq h1
      have eo2 := cpIs_eq h2
      subst eo eo2
      rcases (Bool.or_eq_true _ _).mp hm with hm | hm
      · have em := eq_of_beq hm
        subst em
        exact ok_chn (chkE_ok a (m := 0) H h5) (chkE_ok b (m := 0) H h6) (chkE_ok d (m := 0) H h7) (flag_ok h4) (by simpa using h3)
      · have em := eq_of_beq hm
        subst em
        exact okT_chn (chkE_ok a (m := 0) H h5) (chkE_ok b (m := 0) H h6) (chkE_ok d (m := 0) H h7) (flag_ok h4) (by simpa using h3)
  | .and a b, c, L, m, e, H, h => by
    rw [chkE] at h
    cases hx : asBool2 e with
    | none => simp [hx] at h
    | some r =>
      obtain ⟨o, a', r⟩ := r
      simp only [hx] at h
      obtain ⟨b', rest, p, rfl, rfl⟩ := asBool2_eq hx
      cases o <;> first | (simp at h; done) | skip
      by_cases hm : m = 0
      · subst hm
        obtain ⟨h1, h2⟩ := and2 (show (chkE c a 0 a' && chkE c b 0 _) = true from h)
        exact ok_and (chkE_ok a (m := 0) H h1) (chkE_ok b (m := 0) H h2)
      · have h : ((m == 1 || m == 2) && chkE c a 1 a' && chkE c b 2 (.BoolOp .And (b' :: rest) p)) = true := by simpa [hm] using h
        replace h := and2 h
        obtain ⟨h, h2⟩ := h
        replace h := and2 h
        obtain ⟨h0, h1⟩ := h
        have g := okW_and (chkE_ok a (m := 1) H h1) (chkE_ok b (m := 2) H h2)
        rcases (Bool.or_eq_true _ _).mp h0 with h0 | h0
        · have em := eq_of_beq h0
          subst em
          exact okT_of g
        · have em := eq_of_beq h0
          subst em
          exact g
  | .or a b, c, L, m, e, H, h => by
    rw [chkE] at h
    cases hx : asBool2 e with
    | none => simp [hx] at h
    | some r =>
      obtain ⟨o, a', r⟩ := r
      simp only [hx] at h
      obtain ⟨b', rest, p, rfl, rfl⟩ := asBool2_eq hx
      cases o <;> first | (simp at h; done) | skip
      by_cases hm : m = 0
      · subst hm
        obtain ⟨h1, h2⟩ := and2 (show (chkE c a 0 a' && chkE c b 0 _) = true from h)
        exact ok_or (chkE_ok a (m := 0) H h1) (chkE_ok b (m := 0) H h2)
      · have h : ((m == 1 || m == 2) && chkE c a 1 a' && chkE c b 2 (.BoolOp .Or (b' :: rest) p)) = true := by simpa [hm] using h
        replace h := and2 h
        obtain ⟨h, h2⟩ := h
        replace h := and2 h
        obtain ⟨h0, h1⟩ := h
        have g := okW_or (chkE_ok a (m := 1) H h1) (chkE_ok b (m := 2) H h2)
        rcases (Bool.or_eq_true _ _).mp h0 with h0 | h0
        · have em := eq_of_beq h0
          subst em
          exact okT_of g
        · have em := eq_of_beq h0
          subst em
          exact g
  | .shr a, c, L, m, e, H, h => by
    rw [chkE] at h
    replace h := and2 h
    obtain ⟨hm, h⟩ := h
    exact mok_of (ok_shr (chkE_ok a (m := 0) H h)) (by unfold pm; rw [hm]; rfl)
  | .srt a, c, L, m, e, H, h => by
    rw [chkE] at h
    replace h := and2 h
    obtain ⟨hm, h⟩ := h
    cases hx : asCall e with
    | none => simp [hx] at h
    | some r =>
      obtain ⟨x, xs⟩ := r
      simp only [hx] at h
      obtain ⟨p1, p, rfl⟩ := asCall_eq hx
      match xs, h with
      | [e2], h =>
        cases hy : asCall e2 with
        | none => simp [hy] at h
        | some r2 =>
          obtain ⟨y, ys⟩ := r2
          simp only [hy] at h
          obtain ⟨p3, p4, rfl⟩ := asCall_eq hy
          match ys, h with
          | [a'], h =>
            obtain ⟨h1, h⟩ := and2 h
            obtain ⟨h2, h⟩ := and2 h
            obtain ⟨h3, h⟩ := and2 h
            obtain ⟨h4, h⟩ := and2 h
            obtain ⟨h5, h6⟩ := and2 h
            have ex := eq_of_beq h1
            have ey := eq_of_beq h3
            subst ex
            subst ey
            obtain ⟨g1, g2⟩ := H.bx h2
            obtain ⟨g3, g4⟩ := H.bx h4
            exact mok_of (ok_srt (chkE_ok a (m := 0) H h6) g1 g2 g3 g4 (notStar_ok h5)) hm
  | .mxd mn a d, c, L, m, e, H, h => by
    rw [chkE] at h
    replace h := and2 h
    obtain ⟨hm, h⟩ := h
    cases hx : asMxd e with
    | none => simp [hx] at h
    | some r =>
      obtain ⟨x, a', k, c0⟩ := r
      simp only [hx] at h
      obtain ⟨p1, p2, j, p3, p4, rfl⟩ := asMxd_eq hx
      obtain ⟨h1, h⟩ := and2 h
      obtain ⟨h2, h⟩ := and2 h
      obtain ⟨h3, h⟩ := and2 h
      obtain ⟨h4, h⟩ := and2 h
      obtain ⟨h5, h6⟩ := and2 h
      have ex := eq_of_beq h1
      have ek := eq_of_beq h3
      subst ex
      subst ek
      obtain ⟨g1, g2⟩ := H.bx h2
      cases hk : constD c0 with
      | none => simp [hk] at h4
      | some d' =>
        simp only [hk] at h4
        have := sameD_eq h4
        subst this
        exact mok_of (ok_mxd (chkE_ok a (m := 0) H h6) hk g1 g2 (notStar_ok h5)) hm
  | .callk i n ks arr dfl es es2, c, L, m, e, H, h => by
    rw [chkE] at h
    replace h := and2 h
    obtain ⟨hm, h⟩ := h
    cases hx : asCallK e with
    | none => simp [hx] at h
    | some r =>
      obtain ⟨x, xs, kws⟩ := r
      simp only [hx] at h
      obtain ⟨p1, p, rfl⟩ := asCallK_eq hx
      cases hg : c.fns[i]? with
      | none => simp [hg] at h
      | some g =>
        simp only [hg] at h
        obtain ⟨h1, h⟩ := and2 h
        obtain ⟨h2, h⟩ := and2 h
        obtain ⟨h3, h⟩ := and2 h
        obtain ⟨h4, h⟩ := and2 h
        obtain ⟨h5, h⟩ := and2 h
        obtain ⟨h6, h⟩ := and2 h
        obtain ⟨h7, h⟩ := and2 h
        obtain ⟨h8, h⟩ := and2 h
        obtain ⟨h9, h⟩ := and2 h
        obtain ⟨h10, h⟩ := and2 h
        obtain ⟨h11, h⟩ := and2 h
        obtain ⟨h12, h⟩ := and2 h
        obtain ⟨h13, h⟩ := and2 h
        obtain ⟨h14, h15⟩ := and2 h
        have ex := eq_of_beq h1
        subst ex
        have ed := sameDs_eq h11
        subst ed
        obtain ⟨q1, q2⟩ := H.gx h2
        obtain ⟨k1, k2⟩ := H.call i g hg
        exact mok_of (ok_callk k1 k2 (Nat.le_refl _) (chkEs_ok es H h14).1 (chkKs_ok es2 H h15) (List.isEmpty_iff.mp h3) (List.isEmpty_iff.mp h4) (List.isEmpty_iff.mp h5) (List.isEmpty_iff.mp h6) (List.elem_iff.mp h7) (eq_of_beq h8) (fun z => by rw [z] at h9; cases h9) (eq_of_beq h10) q1 q2 (noStar_ok h12) (fun z => by subst z; exact Es.isNil_eq (by simpa using h13))) hm
  | .ixc i b, c, L, m, e, H, h => by
    rw [chkE] at h
    replace h := and2 h
    obtain ⟨hm, h⟩ := h
    cases hx : asSub e with
    | none => simp [hx] at h
    | some r =>
      obtain ⟨a', b'⟩ := r
      simp only [hx] at h
      obtain ⟨p, rfl⟩ := asSub_eq hx
      replace h := and2 h
      obtain ⟨h, h4⟩ := h
      replace h := and2 h
      obtain ⟨h1, h2⟩ := h
      cases hy : asName a' with
      | none => simp [hy] at h2
      | some x =>
        simp only [hy] at h2
        obtain ⟨p2, rfl⟩ := asName_eq hy
        obtain ⟨g1, g2, g3, g4⟩ := H.vis h2
        exact mok_of (ok_ixc g1 g2 g3 g4 (chkE_ok b (m := 0) H h4) (notSlice_ok h1)) hm
  | .one a, c, L, m, e, H, h => by
    rw [chkE] at h
    cases hx : asBool1 e with
    | none => simp [hx] at h
    | some r =>
      obtain ⟨o, a'⟩ := r
      simp only [hx] at h
      obtain ⟨p, rfl⟩ := asBool1_eq hx
      by_cases hm : m = 0
      · subst hm
        exact ok_one (chkE_ok a (m := 0) H h)
      · have h : ((m == 1 || m == 2) && chkE c a 1 a') = true := by simpa [hm] using h
        replace h := and2 h
        obtain ⟨h0, h1⟩ := h
        have g := okW_one (op := o) (pos := p) (chkE_ok a (m := 1) H h1)
        rcases (Bool.or_eq_true _ _).mp h0 with h0 | h0
        · have em := eq_of_beq h0
          subst em
          exact okT_of g
        · have em := eq_of_beq h0
          subst em
          exact g
  | .not a, c, L, m, e, H, h => by
    rw [chkE] at h
    cases hx : asUn e with
    | none => simp [hx] at h
    | some r =>
      obtain ⟨o, a'⟩ := r
      simp only [hx] at h
      obtain ⟨p, rfl⟩ := asUn_eq hx
      cases o <;> first | (simp at h; done) | skip
      by_cases hm : m = 0
      · subst hm
        exact ok_not (chkE_ok a (m := 0) H h)
      · have h : ((m == 1) && chkE c a 1 a') = true := by simpa [hm] using h
        replace h := and2 h
        obtain ⟨h0, h1⟩ := h
        have em := eq_of_beq h0
        subst em
        exact okT_not (chkE_ok a (m := 1) H h1)
  | .ifx t a b, c, L, m, e, H, h => by
    rw [chkE] at h
    replace h := and2 h
    obtain ⟨hm, h⟩ := h
    have em := eq_of_beq hm
    subst em
    cases hx : asIfx e with
    | none => simp [hx] at h
    | some r =>
      obtain ⟨t', a', b'⟩ := r
      simp only [hx] at h
      obtain ⟨p, rfl⟩ := asIfx_eq hx
      replace h := and2 h
      obtain ⟨h, h3⟩ := h
      replace h := and2 h
      obtain ⟨h1, h2⟩ := h
      exact ok_ifx (chkE_ok t (m := 1) H h1) (chkE_ok a (m := 0) H h2) (chkE_ok b (m := 0) H h3)
  | .tup es, c, L, m, e, H, h => by
    rw [chkE] at h
    replace h := and2 h
    obtain ⟨hm, h⟩ := h
    cases hx : asTup e with
    | none => simp [hx] at h
    | some xs =>
      simp only [hx] at h
      obtain ⟨k, p, rfl⟩ := asTup_eq hx
      replace h := and2 h
      obtain ⟨h1, h2⟩ := h
      exact mok_of (ok_tup (chkEs_ok es H h2).1 (List.isEmpty_iff.mp h1)) hm
  | .lst es, c, L, m, e, H, h => by
    rw [chkE] at h
    replace h := and2 h
    obtain ⟨hm, h⟩ := h
    cases hx : asLst e with
    | none => simp [hx] at h
    | some xs =>
      simp only [hx] at h
      obtain ⟨p, rfl⟩ := asLst_eq hx
      replace h := and2 h
      obtain ⟨h1, h2⟩ := h
      exact mok_of (ok_lst (chkEs_ok es H h2).1 (List.isEmpty_iff.mp h1)) hm
  | .dct ks es, c, L, m, e, H, h => by
    rw [chkE] at h
    replace h := and2 h
    obtain ⟨hm, h⟩ := h
    cases hx : asDct e with
    | none => simp [hx] at h
    | some r =>
      obtain ⟨kes, xs⟩ := r
      simp only [hx] at h
      obtain ⟨p, rfl⟩ := asDct_eq hx
      rcases (Bool.or_eq_true _ _).mp h with h | h
      · replace h := and2 h
        obtain ⟨h, h4⟩ := h
        replace h := and2 h
        obtain ⟨h, h3⟩ := h
        replace h := and2 h
        obtain ⟨h1, h2⟩ := h
        rw [List.isEmpty_iff.mp h1, List.isEmpty_iff.mp h2, List.isEmpty_iff.mp h3, Es.isNil_eq h4] at *
        exact mok_of ok_dct0 hm
      replace h := and2 h
      obtain ⟨h, h7⟩ := h
      replace h := and2 h
      obtain ⟨h, h6⟩ := h
      replace h := and2 h
      obtain ⟨h, h5⟩ := h
      replace h := and2 h
      obtain ⟨h, h4⟩ := h
      replace h := and2 h
      obtain ⟨h, h3⟩ := h
      replace h := and2 h
      obtain ⟨h1, h2⟩ := h
      exact mok_of (ok_dct h1 (eq_of_beq h2) (of_decide_eq_true h3) (fun z => by subst z; cases h4) (of_decide_eq_true h5) ((chkEs_ok es H h7).2 (List.isEmpty_iff.mp h6)).1) hm
  | .ix q a b, c, L, m, e, H, h => by
    rw [chkE] at h
    replace h := and2 h
    obtain ⟨hm, h⟩ := h
    cases hx : asSub e with
    | none => simp [hx] at h
    | some r =>
      obtain ⟨a', b'⟩ := r
      simp only [hx] at h
      obtain ⟨p, rfl⟩ := asSub_eq hx
      replace h := and2 h
      obtain ⟨h, h4⟩ := h
      replace h := and2 h
      obtain ⟨h, h3⟩ := h
      replace h := and2 h
      obtain ⟨h1, h2⟩ := h
      exact mok_of (ok_ix (chkE_ok a (m := 0) H h3) (chkE_ok b (m := 0) H h4) (flag_ok h2) (notSlice_ok h1)) hm
  | .sl q q2 a lo hi, c, L, m, e, H, h => by
    rw [chkE] at h
    replace h := and2 h
    obtain ⟨hm, h⟩ := h
    cases hx : asSli e with
    | none => simp [hx] at h
    | some r =>
      obtain ⟨a', lo', hi'⟩ := r
      simp only [hx] at h
      obtain ⟨p, p2, rfl⟩ := asSli_eq hx
      replace h := and2 h
      obtain ⟨h, h4⟩ := h
      replace h := and2 h
      obtain ⟨h, h3⟩ := h
      replace h := and2 h
      obtain ⟨h1, h2⟩ := h
      exact mok_of (ok_sl (chkE_ok a (m := 0) H h2) (chkO_ok lo H h3) (chkO_ok hi H h4) (flag_ok h1)) hm
  | .rev a, c, L, m, e, H, h => by
    rw [chkE] at h
    replace h := and2 h
    obtain ⟨hm, h⟩ := h
    cases hx : asRev e with
    | none => simp [hx] at h
    | some a' =>
      simp only [hx] at h
      obtain ⟨k, p1, p2, p3, p, rfl⟩ := asRev_eq hx
      exact mok_of (ok_rev (chkE_ok a (m := 0) H h)) hm
  | .call q i es, c, L, m, e, H, h => by
    rw [chkE] at h
    replace h := and2 h
    obtain ⟨hm, h⟩ := h
    cases hx : asCall e with
    | none => simp [hx] at h
    | some r =>
      obtain ⟨x, xs⟩ := r
      simp only [hx] at h
      obtain ⟨p1, p, rfl⟩ := asCall_eq hx
      cases hg : c.fns[i]? with
      | none => simp [hg] at h
      | some g =>
        simp only [hg] at h
        replace h := and2 h
        obtain ⟨h, h7⟩ := h
        replace h := and2 h
        obtain ⟨h, h6⟩ := h
        replace h := and2 h
        obtain ⟨h, h5⟩ := h
        replace h := and2 h
        obtain ⟨h, h4⟩ := h
        replace h := and2 h
        obtain ⟨h, h3⟩ := h
        replace h := and2 h
        obtain ⟨h1, h2⟩ := h
        have ex := eq_of_beq h1
        subst ex
        obtain ⟨g1, g2⟩ := H.gx h2
        obtain ⟨c1, c2⟩ := H.call i g hg
        have ei := eq_of_beq h3
        have es1 := (chkEs_ok es H h7).1
        cases xs with
        | nil =>
          cases es with
          | nil => exact mok_of (ok_call0 c1 c2 (Nat.le_refl _) ei.symm g1 g2) hm
          | cons => simp [chkEs] at h7
          | io => simp [chkEs] at h7
        | cons y ys => exact mok_of (ok_call c1 c2 (Nat.le_refl _) es1 ei (of_decide_eq_true h4) (flag_ok h5) g1 g2 (noStar_ok h6)) hm
  | .bi b es, c, L, m, e, H, h => by
    rw [chkE] at h
    replace h := and2 h
    obtain ⟨hm, h⟩ := h
    cases hx : asCall e with
    | none => simp [hx] at h
    | some r =>
      obtain ⟨x, xs⟩ := r
      simp only [hx] at h
      obtain ⟨p1, p, rfl⟩ := asCall_eq hx
      replace h := and2 h
      obtain ⟨h, h7⟩ := h
      replace h := and2 h
      obtain ⟨h, h6⟩ := h
      replace h := and2 h
      obtain ⟨h, h5⟩ := h
      replace h := and2 h
      obtain ⟨h, h4⟩ := h
      replace h := and2 h
      obtain ⟨h, h3⟩ := h
      replace h := and2 h
      obtain ⟨h1, h2⟩ := h
      have ex := eq_of_beq h2
      subst ex
      obtain ⟨g1, g2⟩ := H.bx h3
      obtain ⟨b1, b2, b3⟩ := bi_boot b h1
      cases xs with
      | nil => cases h5
      | cons y ys => exact mok_of (ok_bi (chkEs_ok es H h7).1 (List.isEmpty_iff.mp h4) g1 g2 b1 b2 b3 (noStar_ok h6)) hm
  | .mt k q o es, c, L, m, e, H, h => by
    rw [chkE] at h
    replace h := and2 h
    obtain ⟨hm, h⟩ := h
    cases hx : asMeth e with
    | none => simp [hx] at h
    | some r =>
      obtain ⟨o', n, xs⟩ := r
      simp only [hx] at h
      obtain ⟨p1, p, rfl, hl⟩ := asMeth_eq hx
      replace h := and2 h
      obtain ⟨h, h9⟩ := h
      replace h := and2 h
      obtain ⟨h, h8⟩ := h
      replace h := and2 h
      obtain ⟨h, h7⟩ := h
      replace h := and2 h
      obtain ⟨h, h6⟩ := h
      replace h := and2 h
      obtain ⟨h, h5⟩ := h
      replace h := and2 h
      obtain ⟨h, h4⟩ := h
      replace h := and2 h
      obtain ⟨h, h3⟩ := h
      replace h := and2 h
      obtain ⟨h1, h2⟩ := h
      have ex := eq_of_beq h2
      subst ex
      rcases (Bool.or_eq_true _ _).mp h1 with hh | h1
      · cases xs with
        | nil => cases h5
        | cons y ys => exact mok_of (ok_mt hh (chkE_ok o (m := 0) H h8) (chkEs_ok es H h9).1 (List.isEmpty_iff.mp h4) (plainO_ok h3) hl (noStar_ok h7) (of_decide_eq_true h6)) hm
      · have all := ((chkEs_ok es H h9).2 (List.isEmpty_iff.mp h4)).2
        have ko := chkE_ok o (m := 0) H h8
        obtain ⟨rfl, q1, q2, ik, z, e, k, j, p, rfl, rfl, hz, hq⟩ := get2C_ok h1
        exact mok_of (ok_get2 ko all.1 hz hq (plainO_ok h3) hl (noStar_ok h7 _ List.mem_cons_self)) hm
  | .mu k p es, c, L, m, e, H, h => by
    rw [chkE] at h
    replace h := and2 h
    obtain ⟨hm, h⟩ := h
    cases hx : asMeth e with
    | none => simp [hx] at h
    | some r =>
      obtain ⟨o', n, xs⟩ := r
      simp only [hx] at h
      obtain ⟨p1, p2, rfl, hl⟩ := asMeth_eq hx
      replace h := and2 h
      obtain ⟨h, h10⟩ := h
      replace h := and2 h
      obtain ⟨h, h9⟩ := h
      replace h := and2 h
      obtain ⟨h, h8⟩ := h
      replace h := and2 h
      obtain ⟨h, h7⟩ := h
      replace h := and2 h
      obtain ⟨h, h6⟩ := h
      replace h := and2 h
      obtain ⟨h, h5⟩ := h
      replace h := and2 h
      obtain ⟨h, h4⟩ := h
      replace h := and2 h
      obtain ⟨h, h3⟩ := h
      replace h := and2 h
      obtain ⟨h1, h2⟩ := h
      have ex := eq_of_beq h2
      subst ex
      have k1 : k ≠ .update := fun z => by subst z; cases h1
      have n1 := disj_ok h5 p.slot List.mem_cons_self
      have n2 := disj_ok h6 p.slot List.mem_cons_self
      cases xs with
      | nil =>
        cases es with
        | nil => exact mok_of (ok_mu0 k1 (chkP_ok p H h9) n1 (plainO_ok h3) hl) hm
        | cons => simp [chkEs] at h10
        | io => simp [chkEs] at h10
      | cons y ys => exact mok_of (ok_mu k1 (chkP_ok p H h9) (chkEs_ok es H h10).1 (List.isEmpty_iff.mp h4) n1 n2 (plainO_ok h3) hl (noStar_ok h8) (of_decide_eq_true h7)) hm
  | .isi a cs, c, L, m, e, H, h => by
    rw [chkE] at h
    replace h := and2 h
    obtain ⟨hm, h⟩ := h
    cases hx : asCall e with
    | none => simp [hx] at h
    | some r =>
      obtain ⟨x, xs⟩ := r
      simp only [hx] at h
      obtain ⟨p1, p, rfl⟩ := asCall_eq hx
      match xs, h with
      | [a', t], h =>
        replace h := and2 h
        obtain ⟨h, h5⟩ := h
        replace h := and2 h
        obtain ⟨h, h4⟩ := h
        replace h := and2 h
        obtain ⟨h, h3⟩ := h
        replace h := and2 h
        obtain ⟨h1, h2⟩ := h
        have ex := eq_of_beq h1
        subst ex
        obtain ⟨g1, g2⟩ := H.bx h2
        have ha := chkE_ok a (m := 0) H h4
        cases ht : asTup t with
        | some ts =>
          simp only [ht] at h5
          obtain ⟨k, p3, rfl⟩ := asTup_eq ht
          replace h5 := and2 h5
          obtain ⟨h5, h6⟩ := h5
          obtain ⟨l, e1, e2, e3⟩ := tysE_ok H h6
          subst e1 e2
          exact mok_of (ok_isiN ha e3 g1 g2 (notStar_ok h3) (by have := of_decide_eq_true h5; simpa using this)) hm
        | none =>
          simp only [ht] at h5
          replace h5 := and2 h5
          obtain ⟨h5, h6⟩ := h5
          obtain ⟨l, e1, e2, e3⟩ := tysE_ok H h6
          match l, e2, e1, e3 with
          | [q], e2, e1, e3 =>
            subst e1
            cases e2
            obtain ⟨k1, k2, k3⟩ := e3 q List.mem_cons_self
            exact mok_of (ok_isi1 ha k1 k2 k3 g1 g2 (notStar_ok h3)) hm
      | [], h => simp at h
      | [_], h => simp at h
      | _ :: _ :: _ :: _, h => simp at h
  | .lc own q q2 t vs ii ic ie, c, L, m, e, H, h => by
    rw [chkE] at h
    replace h := and2 h
    obtain ⟨hm, h⟩ := h
    cases hx : asLC e with
    | none => simp [hx] at h
    | some r =>
      obtain ⟨elt', tg, it', ifs', scope⟩ := r
      simp only [hx] at h
      obtain ⟨p, rfl⟩ := asLC_eq hx
      replace h := and2 h
      obtain ⟨h, h11⟩ := h
      replace h := and2 h
      obtain ⟨h, h10⟩ := h
      replace h := and2 h
      obtain ⟨h, h9⟩ := h
      replace h := and2 h
      obtain ⟨h, h8⟩ := h
      replace h := and2 h
      obtain ⟨h, h7⟩ := h
      replace h := and2 h
      obtain ⟨h, h6⟩ := h
      replace h := and2 h
      obtain ⟨h, h5⟩ := h
      replace h := and2 h
      obtain ⟨h, h4⟩ := h
      replace h := and2 h
      obtain ⟨h, h3⟩ := h
      replace h := and2 h
      obtain ⟨h1, h2⟩ := h
      have eo : (ownN c.N own).map (·.2) = own := eq_of_beq h1
      have hb : BlkOk L.N L.sc scope (ownN c.N own) := by rw [H.N, H.sc]; exact blkOk_by h2
      have H2 := H.blk scope
      have k1 := chkI_ok ii H h8
      have k2 := chkT_ok t H2 h9
      have k3 := chkIf_ok ic H2 h10
      have k4 : EOk P w K mg base cf (L.blk scope) elt' ie := chkE_ok ie (m := 0) H2 h11
      have nd : L.N.Nodup := by rw [H.N]; exact H.nd
      have c3 := within_ok h3
      have c4 := within_ok h4
      have c5 := flag_ok h5
      have c6 := flag_ok h6
      have c7 := notSet_it h7
      rcases (Bool.or_eq_true _ _).mp hm with hm | hm
      · have g := ok_lc (pos := p) nd hb k1 k2 k3 k4 (by rw [eo]; exact c3) c4 (by rw [eo]; exact c5) (by rw [eo]; exact c6) c7
        rw [eo] at g
        exact mok_of g hm
      · have em := eq_of_beq hm
        subst em
        exact ⟨elt', tg, it', ifs', scope, p, ownN c.N own, q, q2, t, vs, ii, ic, ie, rfl, by rw [eo], nd, hb, k1, k2, k3, k4, by rw [eo]; exact c3, c4, by rw [eo]; exact c5, by rw [eo]; exact c6, c7⟩
theorem chkO_ok : ∀ (ir : E1) {c : Ck} {L : Lx} {e : Option Expr}, CkOk P w K mg base cf c L → chkO c ir e = true → POk P w K mg base cf L e ir
  | .no, c, L, e, H, h => by
    cases e with
    | none => exact po_no
    | some x => simp [chkO] at h
  | .yes a, c, L, e, H, h => by
    cases e with
    | none => simp [chkO] at h
    | some x => rw [chkO] at h; exact po_yes (chkE_ok a (m := 0) H h)
theorem chkIf_ok : ∀ (ir : E1) {c : Ck} {L : Lx} {e : List Expr}, CkOk P w K mg base cf c L → chkIf c ir e = true → IfOk P w K mg base cf L e ir
  | .no, c, L, e, H, h => by
    cases e with
    | nil => exact if_no
    | cons x xs => simp [chkIf] at h
  | .yes a, c, L, e, H, h => by
    match e, h with
    | [x], h => rw [chkIf] at h; exact if_yes (chkE_ok a (m := 1) H h)
    | [], h => simp [chkIf] at h
    | _ :: _ :: _, h => simp [chkIf] at h
theorem chkKs_ok : ∀ (ir : Es) {c : Ck} {L : Lx} {kws : List Keyword}, CkOk P w K mg base cf c L → chkKs c ir kws = true → KsOk P w K mg base cf L kws ir
  | .nil, c, L, kws, H, h => by
    cases kws with
    | nil => exact ksok_nil
    | cons x xs => simp [chkKs] at h
  | .cons q a ies, c, L, kws, H, h => by
    cases kws with
    | nil => simp [chkKs] at h
    | cons x xs =>
      rw [chkKs] at h
      obtain ⟨h1, h⟩ := and2 h
      obtain ⟨h2, h3⟩ := and2 h
      have k1 : EOk P w K mg base cf L x.value a := chkE_ok a (m := 0) H h2
      obtain ⟨n1, n2, n3⟩ := x
      exact ksok_cons k1 (chkKs_ok ies H h3) (flag_ok h1)
  | .io i ies, c, L, kws, H, h => by cases kws <;> simp [chkKs] at h
theorem chkEs_ok : ∀ (ir : Es) {c : Ck} {L : Lx} {es : List Expr}, CkOk P w K mg base cf c L → chkEs c ir es = true → EsOk P w K mg base cf L es ir ∧ (ir.ios = [] → DsOk P w K mg base cf L es ir ∧ EsAll P w K mg base cf L es ir)
  | .nil, c, L, es, H, h => by
    cases es with
    | nil => exact ⟨oks_nil, fun _ => ⟨ds_nil, trivial⟩⟩
    | cons x xs => simp [chkEs] at h
  | .cons q a ies, c, L, es, H, h => by
    cases es with
    | nil => simp [chkEs] at h
    | cons x xs =>
      rw [chkEs] at h
      replace h := and2 h
      obtain ⟨h, h4⟩ := h
      replace h := and2 h
      obtain ⟨h, h3⟩ := h
      replace h := and2 h
      obtain ⟨h1, h2⟩ := h
      have k1 : EOk P w K mg base cf L x a := chkE_ok a (m := 0) H h3
      obtain ⟨k2, k3⟩ := chkEs_ok ies H h4
      exact ⟨oks_cons k1 k2 (flag_ok h2) (notStar_ok h1), fun e => ⟨ds_cons k1 (k3 e).1 (flag_ok h2), k1, (k3 e).2⟩⟩
  | .io i ies, c, L, es, H, h => by
    cases es with
    | nil => simp [chkEs] at h
    | cons x xs =>
      rw [chkEs] at h
      replace h := and2 h
      obtain ⟨h1, h2⟩ := h
      cases hx : asName x with
      | none => simp [hx] at h1
      | some y =>
        simp only [hx] at h1
        obtain ⟨p, rfl⟩ := asName_eq hx
        obtain ⟨g1, g2, g3, g4⟩ := H.vis h1
        exact ⟨oks_io g1 g2 g3 g4 (chkEs_ok ies H h2).1, fun e => by cases e⟩
theorem chkI_ok : ∀ (ir : I) {c : Ck} {L : Lx} {tg e : Expr}, CkOk P w K mg base cf c L → chkI c ir tg e = true → IOk P w K mg base cf L tg e ir
  | .seq a, c, L, tg, e, H, h => by
    rw [chkI] at h
    exact iok_seq (chkE_ok a (m := 0) H h)
  | .rng1 a, c, L, tg, e, H, h => by
    rw [chkI] at h
    cases hx : asCall e with
    | none => simp [hx] at h
    | some r =>
      obtain ⟨x, xs⟩ := r
      simp only [hx] at h
      obtain ⟨p1, p, rfl⟩ := asCall_eq hx
      match xs, h with
      | [a'], h =>
        replace h := and2 h
        obtain ⟨h, h4⟩ := h
        replace h := and2 h
        obtain ⟨h, h3⟩ := h
        replace h := and2 h
        obtain ⟨h1, h2⟩ := h
        have ex := eq_of_beq h1
        subst ex
        obtain ⟨g1, g2⟩ := H.bx h2
        exact iok_rng1 (chkE_ok a (m := 0) H h4) g1 g2 (notStar_ok h3)
      | [], h => simp at h
      | _ :: _ :: _, h => simp at h
  | .rng2 a b, c, L, tg, e, H, h => by
    rw [chkI] at h
    cases hx : asCall e with
    | none => simp [hx] at h
    | some r =>
      obtain ⟨x, xs⟩ := r
      simp only [hx] at h
      obtain ⟨p1, p, rfl⟩ := asCall_eq hx
      match xs, h with
      | [a', b'], h =>
        replace h := and2 h
        obtain ⟨h, h6⟩ := h
        replace h := and2 h
        obtain ⟨h, h5⟩ := h
        replace h := and2 h
        obtain ⟨h, h4⟩ := h
        replace h := and2 h
        obtain ⟨h, h3⟩ := h
        replace h := and2 h
        obtain ⟨h1, h2⟩ := h
        have ex := eq_of_beq h1
        subst ex
        obtain ⟨g1, g2⟩ := H.bx h2
        exact iok_rng2 (chkE_ok a (m := 0) H h5) (chkE_ok b (m := 0) H h6) g1 g2 (notStar_ok h3) (notStar_ok h4)
      | [], h => simp at h
      | [_], h => simp at h
      | _ :: _ :: _ :: _, h => simp at h
  | .enum a, c, L, tg, e, H, h => by
    rw [chkI] at h
    replace h := and2 h
    obtain ⟨h0, h⟩ := h
    obtain ⟨ts, ht⟩ := Option.isSome_iff_exists.mp h0
    obtain ⟨k, pt, rfl⟩ := asTup_eq ht
    cases hx : asCall e with
    | none => simp [hx] at h
    | some r =>
      obtain ⟨x, xs⟩ := r
      simp only [hx] at h
      obtain ⟨p1, p, rfl⟩ := asCall_eq hx
      match xs, h with
      | [a'], h =>
        replace h := and2 h
        obtain ⟨h, h4⟩ := h
        replace h := and2 h
        obtain ⟨h, h3⟩ := h
        replace h := and2 h
        obtain ⟨h1, h2⟩ := h
        have ex := eq_of_beq h1
        subst ex
        obtain ⟨g1, g2⟩ := H.bx h2
        exact iok_enum (chkE_ok a (m := 0) H h4) g1 g2 (notStar_ok h3)
      | [], h => simp at h
      | _ :: _ :: _, h => simp at h
  | .zip q a b, c, L, tg, e, H, h => by
    rw [chkI] at h
    replace h := and2 h
    obtain ⟨h0, h⟩ := h
    obtain ⟨ts, ht⟩ := Option.isSome_iff_exists.mp h0
    obtain ⟨k, pt, rfl⟩ := asTup_eq ht
    cases hx : asCall e with
    | none => simp [hx] at h
    | some r =>
      obtain ⟨x, xs⟩ := r
      simp only [hx] at h
      obtain ⟨p1, p, rfl⟩ := asCall_eq hx
      match xs, h with
      | [a', b'], h =>
        replace h := and2 h
        obtain ⟨h, h7⟩ := h
        replace h := and2 h
        obtain ⟨h, h6⟩ := h
        replace h := and2 h
        obtain ⟨h, h5⟩ := h
        replace h := and2 h
        obtain ⟨h, h4⟩ := h
        replace h := and2 h
        obtain ⟨h, h3⟩ := h
        replace h := and2 h
        obtain ⟨h1, h2⟩ := h
        have ex := eq_of_beq h1
        subst ex
        obtain ⟨g1, g2⟩ := H.bx h2
        exact iok_zip (chkE_ok a (m := 0) H h6) (chkE_ok b (m := 0) H h7) (flag_ok h5) g1 g2 (notStar_ok h3) (notStar_ok h4)
      | [], h => simp at h
      | [_], h => simp at h
      | _ :: _ :: _ :: _, h => simp at h
theorem chkP_ok : ∀ (ir : Pth) {c : Ck} {L : Lx} {e : Expr}, CkOk P w K mg base cf c L → chkP c ir e = true → PthOk P w K mg base cf L e ir
  | .sl i, c, L, e, H, h => by
    rw [chkP] at h
    cases hx : asName e with
    | none => simp [hx] at h
    | some x =>
      simp only [hx] at h
      obtain ⟨p, rfl⟩ := asName_eq hx
      obtain ⟨h1, h2, h3, h4⟩ := H.vis h
      exact pok_sl h1 h2 h3 h4
  | .ix p b, c, L, e, H, h => by
    rw [chkP] at h
    cases hx : asSub e with
    | none => simp [hx] at h
    | some r =>
      obtain ⟨a', b'⟩ := r
      simp only [hx] at h
      obtain ⟨q, rfl⟩ := asSub_eq hx
      replace h := and2 h
      obtain ⟨h, h5⟩ := h
      replace h := and2 h
      obtain ⟨h, h4⟩ := h
      replace h := and2 h
      obtain ⟨h, h3⟩ := h
      replace h := and2 h
      obtain ⟨h1, h2⟩ := h
      exact pok_ix (chkP_ok p H h4) (chkE_ok b (m := 0) H h5) (disj_ok h1 p.slot List.mem_cons_self) (disj_ok h2 p.slot List.mem_cons_self) (notSlice_ok h3)
theorem chkT_ok : ∀ (ir : T) {c : Ck} {L : Lx} {e : Expr}, CkOk P w K mg base cf c L → chkT c ir e = true → TgOk P w K mg base cf L e ir
  | .nm i, c, L, e, H, h => by
    rw [chkT] at h
    cases hx : asName e with
    | none => simp [hx] at h
    | some x =>
      simp only [hx] at h
      obtain ⟨p, rfl⟩ := asName_eq hx
      obtain ⟨h1, h2, h3, h4⟩ := H.stx h
      exact tg_nm h1 h2 h3 h4
  | .tup ts, c, L, e, H, h => by
    rw [chkT] at h
    cases hx : asTup e with
    | none => simp [hx] at h
    | some xs =>
      simp only [hx] at h
      obtain ⟨k, p, rfl⟩ := asTup_eq hx
      replace h := and2 h
      obtain ⟨h, h3⟩ := h
      replace h := and2 h
      obtain ⟨h1, h2⟩ := h
      exact tg_tup (chkTs_ok ts H h3) (noStar_ok h1) fun ds ρ ρ' u hd => by rw [denTs_len hd]; exact eq_of_beq h2
  | .sub p b, c, L, e, H, h => by
    rw [chkT] at h
    cases hx : asSub e with
    | none => simp [hx] at h
    | some r =>
      obtain ⟨a', b'⟩ := r
      simp only [hx] at h
      obtain ⟨q, rfl⟩ := asSub_eq hx
      replace h := and2 h
      obtain ⟨h, h5⟩ := h
      replace h := and2 h
      obtain ⟨h, h4⟩ := h
      replace h := and2 h
      obtain ⟨h, h3⟩ := h
      replace h := and2 h
      obtain ⟨h1, h2⟩ := h
      exact tg_sub (chkP_ok p H h4) (chkE_ok b (m := 0) H h5) (disj_ok h1 p.slot List.mem_cons_self) (disj_ok h2 p.slot List.mem_cons_self) (notSlice_ok h3)
theorem chkTs_ok : ∀ (ir : Ts) {c : Ck} {L : Lx} {es : List Expr}, CkOk P w K mg base cf c L → chkTs c ir es = true → TgsOk P w K mg base cf L es ir
  | .nil, c, L, es, H, h => by
    cases es with
    | nil => exact tgs_nil
    | cons x xs => simp [chkTs] at h
  | .cons t ts, c, L, es, H, h => by
    cases es with
    | nil => simp [chkTs] at h
    | cons x xs =>
      rw [chkTs] at h
      replace h := and2 h
      obtain ⟨h, h3⟩ := h
      replace h := and2 h
      obtain ⟨h1, h2⟩ := h
      exact tgs_cons (chkT_ok t H h2) (chkTs_ok ts H h3) (notStar_ok h1)
end
end
end Mn

/-! Mn Zb: the check of statements, of defs. -/
namespace Mn
open PySem L2
def swW (sc : Scope) (e tg : Expr) : Option Bool := match e with
  | .ListComp _ _ s _ => (match tg with
    | .Name t pos => some ((if sc.kind.isAnnotationScope then ScopeKind.function else sc.kind) == .function && sc.names.lookup t == some .local && pos.line == e.pos.line && !(s.names.any fun (n, k) => n == t && (k == .local || k == .cell)))
    | _ => some false)
  | .SetComp _ _ _ _ => none
  | .DictComp _ _ _ _ _ => none
  | _ => some false
theorem swW_ok {sc : Scope} {e tg : Expr} {b : Bool} {n : Nat} (h : swW sc e tg = some b) (env : PySem.Env) (hs : env.scope = sc) : swapsWith e (some tg) n env = pure b := by
  subst hs
  unfold swW at h
  split at h
  · split at h
    · cases h; rfl
    · rename_i hn
      cases h
      cases tg <;> first | rfl | exact absurd rfl (hn _ _)
  · cases h
  · cases h
  · rename_i h1 h2 h3
    cases h
    cases e <;> first | rfl | exact absurd rfl (h1 _ _ _ _) | exact absurd rfl (h2 _ _ _ _) | exact absurd rfl (h3 _ _ _ _ _)
def notComp : Expr → Bool
  | .ListComp _ _ _ _ => false
  | .SetComp _ _ _ _ => false
  | .DictComp _ _ _ _ _ => false
  | _ => true
theorem notComp_ok {e : Expr} {n : Nat} (h : notComp e = true) (env : PySem.Env) : swapsWith e none n env = pure false := by
  cases e <;> first | rfl | cases h
def tupTup (tg e : Expr) : Option (List Expr × List Expr) := match tg, e with
  | .Tuple ts _ _, .Tuple vs _ _ => some (ts, vs)
  | .List ts _, .Tuple vs _ _ => some (ts, vs)
  | _, _ => none
def blkS (sc : Scope) : ScopeKind := if sc.kind.isAnnotationScope then ScopeKind.function else sc.kind
def nmsOf (sc : Scope) (ts : List Expr) : List Str := ts.filterMap fun
  | .Name id pos => if (sc.names.lookup id == some NameKind.local && pos.line == (ts.head?.map (·.pos.line)).getD 0) = true then some id else none
  | _ => none
def anyStar (vs : List Expr) : Bool := vs.any fun | .Starred .. => true | _ => false
/-- which names are stored from the right -/
def swM (sc : Scope) (tg e : Expr) : Option (Option (List Str)) := match tupTup tg e with
  | none => some none
  | some (ts, vs) =>
    if (!(ts.length == 2 || ts.length == 3) || vs.length != ts.length || blkS sc != .function) = true then some none else
    if anyStar vs = true then some none else
    if ((nmsOf sc ts).length != ts.length || (nmsOf sc ts).eraseDups.length != (nmsOf sc ts).length) = true then some none else
    if vs.all (foldedForSure 8) = true then some none else
    if vs.all (constantsAlone 8) = true then none else
    some (some (nmsOf sc ts))
theorem tupTup_eq {tg e : Expr} {ts vs : List Expr} (h : tupTup tg e = some (ts, vs)) : (∃ k p k2 p2, tg = .Tuple ts k p ∧ e = .Tuple vs k2 p2) ∨ ∃ p k2 p2, tg = .List ts p ∧ e = .Tuple vs k2 p2 := by
  unfold tupTup at h
  split at h
  · cases h; exact .inl ⟨_, _, _, _, rfl, rfl⟩
  · cases h; exact .inr ⟨_, _, _, rfl, rfl⟩
  · cases h
theorem swM_ok {sc : Scope} {tg e : Expr} {r : Option (List Str)} (h : swM sc tg e = some r) (env : PySem.Env) (hs : env.scope = sc) : swappedStores [tg] e env = pure r := by
  subst hs
  have key : ∀ ts vs, tupTup tg e = some (ts, vs) → swappedStores [tg] e env = pure r := fun ts vs ht => by
    unfold swM at h
    rw [ht] at h
    unfold swappedStores
    rcases tupTup_eq ht with ⟨k, p, k2, p2, rfl, rfl⟩ | ⟨p, k2, p2, rfl, rfl⟩
    all_goals
      simp only [] at h ⊢
      split at h
      · rename_i hc
        cases h
        exact if_pos hc
      · rename_i hc
        refine (if_neg hc).trans ?_
        split at h
        · rename_i hc
          cases h
          exact if_pos hc
        · rename_i hc
          refine (if_neg hc).trans ?_
          split at h
          · rename_i hc
            cases h
            exact if_pos hc
          · rename_i hc
            refine (if_neg hc).trans ?_
            split at h
            · rename_i hc
              cases h
              exact if_pos hc
            · rename_i hc
              refine (if_neg hc).trans ?_
              split at h
              · cases h
              · rename_i hc
                cases h
                exact if_neg hc
  cases ht : tupTup tg e with
  | some p => obtain ⟨ts, vs⟩ := p; exact key ts vs ht
  | none =>
    unfold swM at h
    rw [ht] at h
    cases h
    cases tg <;> first | rfl | (cases e <;> first | rfl | cases ht)
/-! statements -/
def asNameTs : Expr → Option (List Str)
  | .Tuple es _ _ => es.mapM asName
  | _ => none
def isNev : S → Bool
  | .nev => true
  | _ => false
def isNil : Ss → Bool
  | .nil => true
  | _ => false
def tgNm : T → Option Nat
  | .nm i => some i
  | _ => none
/-- for x in y: x.append(constant) -/
def eachM : Stmt → Option (Str × Str × Const)
  | .For (.Name x _) (.Name y _) [.Expr (.Call (.Attribute (.Name x3 _) m ap) [.Constant c _ _] [] cp) _] [] _ => if (x == x3 && m == Str.ofString "append" && ap.endLine == cp.line) = true then some (x, y, c) else none
  | _ => none
theorem eachM_eq {st : Stmt} {x y : Str} {c : Const} (h : eachM st = some (x, y, c)) : ∃ p1 p2 p3 p4 p5 ap cp pos k, st = .For (.Name x p1) (.Name y p2) [.Expr (.Call (.Attribute (.Name x p3) "append" ap) [.Constant c k p4] [] cp) p5] [] pos ∧ (ap.endLine == cp.line) = true := by
  unfold eachM at h
  split at h
  · split at h
    · rename_i hc
      cases h
      obtain ⟨h1, h3⟩ := (Bool.and_eq_true _ _).mp hc
      obtain ⟨h1, h2⟩ := (Bool.and_eq_true _ _).mp h1
      rw [← eq_of_beq h1, eq_of_beq h2]
      exact ⟨_, _, _, _, _, _, _, _, _, rfl, h3⟩
    · cases h
  · cases h
mutual
def chkS (c : Ck) : S → Stmt → Bool
  | .asg t vs e, st => (match st with
    | .Assign [tg] e' _ => notStar tg && within e.U vs && (match swW c.sc e' tg with
      | some true => chkE c e 3 e' && (match tgNm t, asName tg with
        | some i, some y => (c.N[i]? == some y) && locK (c.sc.names.lookup y)
        | _, _ => false)
      | some false => (swM c.sc tg e' == some none) && chkE c e 0 e' && chkT c t tg
      | none => false)
    | _ => false)
  | .par is vs es, st => (match st with
    | .Assign [tg] e' _ => within es.U vs && es.ios.isEmpty && (match asNameTs tg, asTup e' with
      | some ns, some xs => (swM c.sc tg e' == some (some ns)) && (ns.map some == is.map (fun i => c.N[i]?)) && decide is.Nodup && (ns.length == xs.length) && ns.all (fun n => locK (c.sc.names.lookup n)) && chkEs c es xs
      | _, _ => false)
    | _ => false)
  | .each i j d, st => (match eachM st with
    | some (x, y, k) => c.st i x && c.nm i x && c.nm j y && (match constD k with | some d' => sameD d d' | none => false)
    | none => false)
  | .aug i op e, st => (match st with
    | .AugAssign tg o e' _ => (match asName tg with
      | some x => c.st i x && opIs op o && chkE c e 0 e'
      | none => false)
    | _ => false)
  | .ex e, st => (match st with
    | .Expr e' _ => notComp e' && chkE c e 0 e'
    | _ => false)
  | .ite t a b, st => (match st with
    | .If t' a' b' _ => chkE c t 1 t' && chkSs c a a' && chkSs c b b'
    | _ => false)
  | .for_ t vs q it body, st => (match st with
    | .For tg it' body' [] _ => notSet it' && within it.U vs && (!q || disj it.U (t.W ++ body.W)) && chkI c it tg it' && chkT c t tg && chkSs c body body'
    | _ => false)
  | .whl t body, st => (match st with
    | .While t' body' [] _ => chkE c t 1 t' && chkSs c body body'
    | _ => false)
  | .ret vs e, st => (match st with
    | .Return (some e') _ => within e.U vs && chkE c e 0 e'
    | _ => false)
  | .retn, st => (match st with
    | .Return none _ => true
    | _ => false)
  | .brk, st => (match st with
    | .Break _ => true
    | _ => false)
  | .cnt, st => (match st with
    | .Continue _ => true
    | _ => false)
  | .pas, st => (match st with
    | .Pass _ => true
    | .Expr (.Constant (.str _) _ _) _ => true
    | _ => false)
  | .nev, _ => true
def chkSs (c : Ck) : Ss → List Stmt → Bool
  | .nil, sts => sts.isEmpty
  | .cons s ss, sts => (isNev s && isNil ss) || (match sts with
    | st :: rest => chkS c s st && chkSs c ss rest
    | [] => false)
end
theorem names_of : ∀ {es : List Expr} {ns : List Str}, es.mapM asName = some ns → ∃ ps : List Pos, es = List.zipWith (fun n p => Expr.Name n p) ns ps ∧ ns.length = ps.length
  | [], ns, h => by
    cases (show some [] = some ns from h)
    exact ⟨[], rfl, rfl⟩
  | e :: es, ns, h => by
    rw [List.mapM_cons] at h
    obtain ⟨x, h1, h2⟩ := Option.bind_eq_some_iff.mp h
    obtain ⟨xs, h3, h4⟩ := Option.bind_eq_some_iff.mp h2
    cases (show some (x :: xs) = some ns from h4)
    obtain ⟨ps, e1, e2⟩ := names_of h3
    obtain ⟨p, rfl⟩ := asName_eq h1
    exact ⟨p :: ps, by rw [e1]; rfl, by simp [e2]⟩
theorem loc_of {o : Option NameKind} (h : locK o = true) : o = some .local := by
  cases o with
  | none => cases h
  | some k => cases k <;> first | rfl | cases h
section
variable {P : Program} {w : World} {K : PySem.W.Frag} {mg : Str → Option Value} {base : Heap} {cf : Nat → List D → Option (D × List D)} {wf : Nat}
theorem par_ok {c : Ck} {L : Lx} (H : CkOk P w K mg base cf c L) {is vs : List Nat} {ies : Es} {es xs : List Expr} {ns : List Str} {kt k2 : Nat} {pt p2 pos : Pos} (hU : ∀ j, j ∈ ies.U → j ∈ vs) (hio : ies.ios = []) (hn : es.mapM asName = some ns) (hw : swM c.sc (.Tuple es kt pt) (.Tuple xs k2 p2) = some (some ns))
    (hN : ns.map some = is.map (fun i => c.N[i]?)) (hd : is.Nodup) (hl : ns.length = xs.length) (hloc : ∀ n, n ∈ ns → c.sc.names.lookup n = some .local) (he : EsOk P w K mg base cf L xs ies) : SOk P w K mg base cf wf L (.Assign [.Tuple es kt pt] (.Tuple xs k2 p2) pos) (.par is vs ies) := by
  obtain ⟨ps, e1, e2⟩ := names_of hn
  have hw2 : ∀ env : PySem.Env, env.scope = L.sc → swappedStores [.Tuple es kt pt] (.Tuple xs k2 p2) env = pure (some ns) := fun env h => swM_ok hw env (by rw [h, H.sc])
  have hlen : is.length = ns.length := by have := congrArg List.length hN; simpa using this.symm
  have h23 : ns.length = 2 ∨ ns.length = 3 := by
    unfold swM at hw
    have ht : tupTup (.Tuple es kt pt) (.Tuple xs k2 p2) = some (es, xs) := rfl
    rw [ht] at hw
    simp only [] at hw
    split at hw
    · cases hw
    · rename_i hc
      have le : es.length = ns.length := by rw [e1, List.length_zipWith, ← e2, Nat.min_self]
      rw [le] at hc
      simp only [Bool.or_eq_true, Bool.not_eq_true', not_or, Bool.not_eq_false] at hc
      obtain ⟨⟨h1, _⟩, _⟩ := hc
      exact (by simpa using h1)
  rcases h23 with h2 | h3
  · match ns, ps, is, xs, h2, e2, hlen, hl with
    | [x, y], [p, q], [i, j], [a, b], _, _, _, _ =>
      subst e1
      injection hN with n1 hN
      injection hN with n2 _
      have hij : i ≠ j := fun z => by subst z; simp at hd
      exact s_par2 (by rw [H.N]; exact H.nd) (by rw [H.N]; exact n1.symm) (by rw [H.N]; exact n2.symm) hij (by rw [H.sc]; exact hloc x (by simp)) (by rw [H.sc]; exact hloc y (by simp)) he hio hU hw2
  · match ns, ps, is, xs, h3, e2, hlen, hl with
    | [x, y, z], [p, q, r], [i, j, l], [a, b, d], _, _, _, _ =>
      subst e1
      injection hN with n1 hN
      injection hN with n2 hN
      injection hN with n3 _
      simp only [List.nodup_cons, List.mem_cons, List.not_mem_nil, or_false, not_or] at hd
      exact s_par3 (by rw [H.N]; exact H.nd) (by rw [H.N]; exact n1.symm) (by rw [H.N]; exact n2.symm) (by rw [H.N]; exact n3.symm) hd.1.1 hd.1.2 hd.2.1 (by rw [H.sc]; exact hloc x (by simp)) (by rw [H.sc]; exact hloc y (by simp)) (by rw [H.sc]; exact hloc z (by simp)) he hio hU hw2
mutual
theorem chkS_ok : ∀ (s : S) {c : Ck} {L : Lx} {st : Stmt}, CkOk P w K mg base cf c L → chkS c s st = true → SOk P w K mg base cf wf L st s
  | .asg t vs e, c, L, st, H, h => by
    unfold chkS at h
    split at h
    · rename_i tg e' pos
      replace h := and2 h
      obtain ⟨h, h3⟩ := h
      obtain ⟨h1, h2⟩ := and2 h
      split at h3
      · rename_i hsw
        obtain ⟨h4, h5⟩ := and2 h3
        split at h5
        · rename_i i y ht hy
          obtain ⟨h6, h7⟩ := and2 h5
          obtain ⟨p, rfl⟩ := asName_eq hy
          have et : t = .nm i := by cases t <;> simp [tgNm] at ht; rw [ht]
          subst et
          obtain ⟨elt, tg2, it, ifs, scope, pos2, own, q, q2, t2, vs2, ii, ic, ie, rfl, rfl, nd, hb, k1, k2, k3, k4, k5, k6, k7, k8, k9⟩ := (chkE_ok e (m := 3) H h4 : LcP P w K mg base cf L e' e)
          exact s_setLc nd (by rw [H.N]; exact eq_of_beq h6) (by rw [H.sc]; exact loc_of h7) hb k1 k2 k3 k4 k5 k6 k7 k8 k9 (within_ok h2) fun env he => swW_ok hsw env (by rw [he, H.sc])
        · cases h5
      · rename_i hsw
        replace h3 := and2 h3
        obtain ⟨h3, h6⟩ := h3
        obtain ⟨h4, h5⟩ := and2 h3
        exact s_asg (chkT_ok t H h6) (chkE_ok e (m := 0) H h5) (within_ok h2) (notStar_ok h1) (fun env he => swW_ok hsw env (by rw [he, H.sc])) fun env he => swM_ok (eq_of_beq h4) env (by rw [he, H.sc])
      · cases h3
    · cases h
  | .par is vs es, c, L, st, H, h => by
    unfold chkS at h
    split at h
    · rename_i tg e' pos
      replace h := and2 h
      obtain ⟨h, h3⟩ := h
      obtain ⟨h1, h2⟩ := and2 h
      split at h3
      · rename_i ns xs hn hx
        replace h3 := and2 h3
        obtain ⟨h3, h9⟩ := h3
        replace h3 := and2 h3
        obtain ⟨h3, h8⟩ := h3
        replace h3 := and2 h3
        obtain ⟨h3, h7⟩ := h3
        replace h3 := and2 h3
        obtain ⟨h3, h6⟩ := h3
        obtain ⟨h4, h5⟩ := and2 h3
        obtain ⟨k2, p2, rfl⟩ := asTup_eq hx
        have : ∃ tes kt pt, tg = .Tuple tes kt pt ∧ tes.mapM asName = some ns := by
          cases tg <;> simp [asNameTs] at hn
          exact ⟨_, _, _, rfl, hn⟩
        obtain ⟨tes, kt, pt, rfl, hn⟩ := this
        exact par_ok H (within_ok h1) (List.isEmpty_iff.mp h2) hn (eq_of_beq h4) (eq_of_beq h5) (of_decide_eq_true h6) (eq_of_beq h7) (fun n hn => loc_of (List.all_eq_true.mp h8 n hn)) (chkEs_ok es H h9).1
      · cases h3
    · cases h
  | .each i j d, c, L, st, H, h => by
    unfold chkS at h
    cases hx : eachM st with
    | none => simp [hx] at h
    | some r =>
      obtain ⟨x, y, q⟩ := r
      simp only [hx] at h
      obtain ⟨p1, p2, p3, p4, p5, ap, cp, pos, k, rfl, hl⟩ := eachM_eq hx
      replace h := and2 h
      obtain ⟨h, h4⟩ := h
      replace h := and2 h
      obtain ⟨h, h3⟩ := h
      obtain ⟨h1, h2⟩ := and2 h
      cases hk : constD q with
      | none => simp [hk] at h4
      | some d' =>
        simp only [hk] at h4
        have ed := sameD_eq h4
        subst ed
        obtain ⟨g1, g2, g3, g4⟩ := H.stx h1
        obtain ⟨_, v2, v3, v4⟩ := H.vis h2
        obtain ⟨w1, w2, w3, w4⟩ := H.vis h3
        exact s_each g1 g2 g3 g4 v2 v3 v4 w1 w2 w3 w4 hk hl fun env => notComp_ok rfl env
  | .aug i op e, c, L, st, H, h => by
    unfold chkS at h
    split at h
    · split at h
      · rename_i x hx
        replace h := and2 h
        obtain ⟨h, h3⟩ := h
        obtain ⟨h1, h2⟩ := and2 h
        obtain ⟨p, rfl⟩ := asName_eq hx
        have eo := opIs_eq h2
        subst eo
        obtain ⟨g1, g2, g3, g4⟩ := H.stx h1
        exact s_aug g1 g2 g3 g4 (chkE_ok e (m := 0) H h3)
      · cases h
    · cases h
  | .ex e, c, L, st, H, h => by
    unfold chkS at h
    split at h
    · obtain ⟨h1, h2⟩ := and2 h
      exact s_ex (chkE_ok e (m := 0) H h2) (notComp_ok h1)
    · cases h
  | .ite t a b, c, L, st, H, h => by
    unfold chkS at h
    split at h
    · replace h := and2 h
      obtain ⟨h, h3⟩ := h
      obtain ⟨h1, h2⟩ := and2 h
      exact s_ite (chkE_ok t (m := 1) H h1) (chkSs_ok a H h2) (chkSs_ok b H h3)
    · cases h
  | .for_ t vs q it body, c, L, st, H, h => by
    unfold chkS at h
    split at h
    · replace h := and2 h
      obtain ⟨h, h6⟩ := h
      replace h := and2 h
      obtain ⟨h, h5⟩ := h
      replace h := and2 h
      obtain ⟨h, h4⟩ := h
      replace h := and2 h
      obtain ⟨h, h3⟩ := h
      obtain ⟨h1, h2⟩ := and2 h
      exact s_for (chkI_ok it H h4) (chkT_ok t H h5) (chkSs_ok body H h6) (within_ok h2) (flag_ok h3) (notSet_it h1)
    · cases h
  | .whl t body, c, L, st, H, h => by
    unfold chkS at h
    split at h
    · obtain ⟨h1, h2⟩ := and2 h
      exact s_whl (chkE_ok t (m := 1) H h1) (chkSs_ok body H h2)
    · cases h
  | .ret vs e, c, L, st, H, h => by
    unfold chkS at h
    split at h
    · obtain ⟨h1, h2⟩ := and2 h
      exact s_ret (chkE_ok e (m := 0) H h2) (within_ok h1)
    · cases h
  | .retn, c, L, st, H, h => by
    unfold chkS at h
    split at h
    · exact s_retn
    · cases h
  | .brk, c, L, st, H, h => by
    unfold chkS at h
    split at h
    · exact s_brk
    · cases h
  | .cnt, c, L, st, H, h => by
    unfold chkS at h
    split at h
    · exact s_cnt
    · cases h
  | .pas, c, L, st, H, h => by
    unfold chkS at h
    split at h
    · exact s_pass
    · exact s_doc
    · cases h
  | .nev, c, L, st, H, h => s_nev
theorem chkSs_ok : ∀ (s : Ss) {c : Ck} {L : Lx} {sts : List Stmt}, CkOk P w K mg base cf c L → chkSs c s sts = true → SsOk P w K mg base cf wf L sts s
  | .nil, c, L, sts, H, h => by
    unfold chkSs at h
    have e := List.isEmpty_iff.mp h
    subst e
    exact ss_nil
  | .cons s ss, c, L, sts, H, h => by
    unfold chkSs at h
    rcases (Bool.or_eq_true _ _).mp h with h | h
    · obtain ⟨h1, h2⟩ := and2 h
      have e1 : s = .nev := by cases s <;> first | rfl | cases h1
      have e2 : ss = .nil := by cases ss <;> first | rfl | cases h2
      subst e1 e2
      exact ss_nev
    · split at h
      · obtain ⟨h1, h2⟩ := and2 h
        exact ss_cons (chkS_ok s H h1) (chkSs_ok ss H h2)
      · cases h
end
end
end Mn

/-! Mn Zc: a law from its defs' checks and its plain law. -/
namespace Mn
open PySem L2 PyProof.Rows PySem.Spec
def strD : D → Bool
  | .str s => PyData.strOk s
  | _ => true
theorem strs_ok {ds : List D} (h : ds.all strD = true) : StrsOk ds := fun d hd s e => by
  subst e
  exact List.all_eq_true.mp h _ hd
theorem vals_arr {arr : List (Bool × Nat)} {dvs xs : List V} {its us : List Value} (h1 : Vals dvs its) (h2 : Vals xs us) : Vals (arrL arr dvs xs) (arrL arr its us) := by
  have step : ∀ {xs : List V} {us : List Value} {i : Nat}, Vals xs us → (xs[i]? = none ∧ us[i]? = none) ∨ ∃ v u, xs[i]? = some v ∧ us[i]? = some u ∧ RelV v u := fun {xs us i} r => by
    induction r generalizing i with
    | nil => exact .inl ⟨rfl, rfl⟩
    | cons r t ih => cases i with
      | zero => exact .inr ⟨_, _, rfl, rfl, r⟩
      | succ i => simpa using ih (i := i)
  induction arr with
  | nil => exact .nil
  | cons p arr ih =>
    unfold arrL at ih ⊢
    obtain ⟨b, i⟩ := p
    cases b with
    | true =>
      rcases step (i := i) h1 with ⟨e1, e2⟩ | ⟨v, u, e1, e2, r⟩
      · simpa [List.filterMap_cons, e1, e2] using ih
      · simp only [List.filterMap_cons, e1, e2, if_true]
        exact .cons r ih
    | false =>
      rcases step (i := i) h2 with ⟨e1, e2⟩ | ⟨v, u, e1, e2, r⟩
      · simpa [List.filterMap_cons, e1, e2] using ih
      · simp only [List.filterMap_cons, e1, e2]
        exact .cons r ih
section
variable {K : PySem.W.Frag} {x : Str} {st : Stmt} {f : Addr} {oc dV kV doc pm cdv ct : Value} {od an : Option Addr} {osl : Array (Option Value)}
theorem fun_of (l : K.lookup f = some ⟨oc, od, .func (PySem.W.fnOf x x (defArgs st) (defBody st) (defScope st) .none kV doc pm an cdv ct), osl⟩) (c : PySem.W.codeIn K cdv x = true) (k : PySem.W.keepIn K (.ref f) = true) :
    FunD K x x (defArgs st) (defBody st) (defScope st) [] [] f (PySem.W.fnOf x x (defArgs st) (defBody st) (defScope st) .none kV doc pm an cdv ct) := ⟨⟨oc, od, .none, kV, doc, pm, an, cdv, ct, osl, rfl, l, c, .inl ⟨rfl, rfl⟩, .inl rfl⟩, k⟩
theorem fun_ofD {T : Addr} {o : Obj} {its : List Value} {n : Nat} {dvs : List V} (l : K.lookup f = some ⟨oc, od, .func (PySem.W.fnOf x x (defArgs st) (defBody st) (defScope st) (.ref T) kV doc pm an cdv ct), osl⟩) (c : PySem.W.codeIn K cdv x = true) (k : PySem.W.keepIn K (.ref f) = true)
    (t : K.lookup T = some o) (e : o.data = .seq its.toArray n) (v : Vals dvs its) (hd : dvs ≠ []) :
    FunD K x x (defArgs st) (defBody st) (defScope st) dvs [] f (PySem.W.fnOf x x (defArgs st) (defBody st) (defScope st) (.ref T) kV doc pm an cdv ct) := ⟨⟨oc, od, .ref T, kV, doc, pm, an, cdv, ct, osl, rfl, l, c, .inr ⟨hd, T, o, its, n, rfl, t, e, v⟩, .inl rfl⟩, k⟩
variable {params : Arguments} {body : List Stmt} {scope : Scope} {fd : FuncData} {ps : List Str}
theorem binds_0 (F : FunD K x x params body scope [] [] f fd) (h : ∀ (kV doc pm : Value) (an : Option Addr) (cdv ct : Value) (us : List Value), us.length = ps.length → bindArgs (PySem.W.fnOf x x params body scope .none kV doc pm an cdv ct) ⟨us, []⟩ = pure (ps.zip us)) :
    ∀ n, n ≤ ([] : List D).length → ∃ ds, Vals ((([] : List D).drop (([] : List D).length - n)).map vOf) ds ∧ Binds K fd ps ds := fun n _ => ⟨[], (by rw [List.drop_nil]; exact .nil), F.bindsN h⟩
theorem binds_d {dfl : List D} (F : FunD K x x params body scope (dfl.map vOf) [] f fd) (n j : Nat) (hd : dfl.map vOf ≠ []) (hn : n + ((dfl.map vOf).length - j) = ps.length)
    (h : ∀ (T : Addr) (kV doc pm : Value) (an : Option Addr) (cdv ct : Value) (us its : List Value), us.length = n → its.length = (dfl.map vOf).length → ∃ k, bindArgs (PySem.W.fnOf x x params body scope (.ref T) kV doc pm an cdv ct) ⟨us, []⟩ = seqItems? (.ref T) >>= k ∧ k (some its.toArray) = pure (ps.zip (us ++ its.drop j))) :
    ∃ ds, Vals ((dfl.drop j).map vOf) ds ∧ Binds K fd ps ds := by
  rw [List.map_drop]
  exact F.binds1 n j hd hn h
theorem kb_0 (F : FunD K x x params body scope [] [] f fd) {n : Nat} {ks : List Str} {arr : List (Bool × Nat)}
    (h : ∀ (kV doc pm : Value) (an : Option Addr) (cdv ct : Value) (us ws : List Value), us.length = n → ws.length = ks.length → bindArgs (PySem.W.fnOf x x params body scope .none kV doc pm an cdv ct) ⟨us, ks.zip ws⟩ = pure (ps.zip (arrL arr [] (us ++ ws)))) :
    ∃ g, KBn K fd ps n ks g fun vs zs => arrL arr ([] : List V) (vs ++ zs) := by
  obtain ⟨oc, od, dV, kV, doc, pm, an, cdv, ct, osl, rfl, lk, hcd, hD, hK⟩ := F.ex
  rcases hD with ⟨_, rfl⟩ | ⟨e, _⟩
  · exact ⟨fun us ws => arrL arr [] (us ++ ws), fun s us ws X l1 l2 => .of_eq (h kV doc pm an cdv ct us ws l1 l2), fun r1 r2 => vals_arr .nil (r1.append r2)⟩
  · exact absurd rfl e
theorem kb_d {dvs : List V} (F : FunD K x x params body scope dvs [] f fd) (hd : dvs ≠ []) {n : Nat} {ks : List Str} {arr : List (Bool × Nat)}
    (h : ∀ (T : Addr) (kV doc pm : Value) (an : Option Addr) (cdv ct : Value) (us its ws : List Value), us.length = n → its.length = dvs.length → ws.length = ks.length → ∃ k, bindArgs (PySem.W.fnOf x x params body scope (.ref T) kV doc pm an cdv ct) ⟨us, ks.zip ws⟩ = seqItems? (.ref T) >>= k ∧ k (some its.toArray) = pure (ps.zip (arrL arr its (us ++ ws)))) :
    ∃ g, KBn K fd ps n ks g fun vs zs => arrL arr dvs (vs ++ zs) := by
  obtain ⟨oc, od, dV, kV, doc, pm, an, cdv, ct, osl, rfl, lk, hcd, hD, hK⟩ := F.ex
  rcases hD with ⟨e, _⟩ | ⟨_, T, o, its, m, rfl, lT, oT, rT⟩
  · exact absurd e hd
  · refine ⟨fun us ws => arrL arr its (us ++ ws), fun s us ws X l1 l2 => ?_, fun r1 r2 => vals_arr rT (r1.append r2)⟩
    obtain ⟨k, e1, e2⟩ := h T kV doc pm an cdv ct us its ws l1 rT.length.symm l2
    refine BindsTo.of_looks fun M => ?_
    rw [e1]
    exact looks_items X lT oT (.of_pure e2)
end
def KwAll (K : PySem.W.Frag) (fd : FuncData) (ps : List Str) (dvs : List V) (l : List (Nat × List Str × List (Bool × Nat))) : Prop := ∀ q, q ∈ l → ∃ g, KBn K fd ps q.1 q.2.1 g fun vs zs => arrL q.2.2 dvs (vs ++ zs)
theorem kwall_nil {K : PySem.W.Frag} {fd : FuncData} {ps : List Str} {dvs : List V} : KwAll K fd ps dvs [] := fun _ h => nomatch h
theorem kwall_cons {K : PySem.W.Frag} {fd : FuncData} {ps : List Str} {dvs : List V} {n : Nat} {ks : List Str} {arr : List (Bool × Nat)} {l : List (Nat × List Str × List (Bool × Nat))} (h : ∃ g, KBn K fd ps n ks g fun vs zs => arrL arr dvs (vs ++ zs)) (t : KwAll K fd ps dvs l) : KwAll K fd ps dvs ((n, ks, arr) :: l) := fun q hq => by
  rcases List.mem_cons.mp hq with rfl | hq
  · exact h
  · exact t q hq
theorem kwok_of {K : PySem.W.Frag} {fd : FuncData} {f : Fn} {l : List (Nat × List Str × List (Bool × Nat))} (h : f.kws = l) (a : KwAll K fd f.ps (f.dfl.map vOf) l) : KwOk K fd f := fun q hq => a q (h ▸ hq)
theorem run_law {P : Program} {w : World} {K : PySem.W.Frag} {mg : Str → Option Value} {base : Heap} {cf : Nat → List D → Option (D × List D)} {k i : Nat} {f : Fn} {fa : Addr} (h : CallOk P w K mg base cf k i f) (hd : f.dfl = []) (hm : mg f.name = some (.ref fa)) :
    ∃ fd : FuncData, Binds K fd f.ps [] ∧ FnG P w K mg base k fa fd f.ps (spF K cf i f) := by
  obtain ⟨fa2, fd, m2, _, run, hb, _⟩ := h.fn
  have z := m2.symm.trans hm
  cases z
  obtain ⟨ds, v, b⟩ := hb 0 (Nat.zero_le _)
  rw [hd] at v
  cases v
  exact ⟨fd, b, run⟩
theorem walk_law {l : PySem.W.OpenLaw} {q : Program} {loose : List Str} {XP : (Str → Option Value) → Heap → Prop} {YP : World → Heap → Prop} {d : DefRec} {K : Params → PySem.W.Frag} {fns : List Fn} {wf k i : Nat} {f : Fn} {x : Str}
    (most : l.most = some 63) (nodfl : d.params.defaults = []) (room : Room k callerA) (inY : ∀ (w : World) (h : Heap), YP w h → (K w.params).In h) (hp : f.ps = [x]) (hio : f.io = [])
    (plainLaw : ∀ ns : List Int, ns.length ≤ 63 → callD fns wf k i [.scr (ns.map .int)] = some (.bl true, []))
    (fn : ∀ (w : World) (mg : Str → Option Value) (fa : Addr) (h : Heap), (K w.params).In h → h.Ns mainGlobals mg → mg d.name = some (.ref fa) →
      ∀ base : Heap, (K w.params).In base → base.Ns mainGlobals mg → ∃ fd : FuncData, Binds (K w.params) fd f.ps [] ∧ FnG l.prog w (K w.params) mg base k fa fd f.ps (spF (K w.params) (callD fns wf k) i f)) :
    PySem.W.WalkO q loose XP YP l.row.toRowW d [] (fun f vs => PySem.call f vs) := by
  rw [hp] at fn
  exact walk_G (n := 63) most (by decide) nodfl room inY fn fun w H a ns len only sq => want_of (by rw [hp]; rfl) (plainLaw ns len) hio only sq
end Mn

/-! Mn Zd: working with what the small language computes. -/
namespace Mn
open PySem L2
theorem callD_at {fns : List Fn} {wf n i : Nat} {f : Fn} {ds : List D} (h : fns[i]? = some f) (hl : ds.length = f.ps.length) : callD fns wf (n + 1) i ds = runF f (denSs (callD fns wf n) wf f.body (ds.map some ++ List.replicate (f.N.length - f.ps.length) none)) := by
  rw [callD, h]
  show (if _ ∧ _ then _ else _) = _
  rw [if_pos ⟨by omega, by omega⟩]
  have e0 : f.dfl.drop (f.dfl.length - (f.ps.length - ds.length)) = [] := List.drop_eq_nil_of_le (by omega)
  rw [e0, List.append_nil]
/-- with defaults -/
theorem callD_atD {fns : List Fn} {wf n i : Nat} {f : Fn} {ds : List D} (h : fns[i]? = some f) (h1 : ds.length ≤ f.ps.length) (h2 : f.ps.length ≤ ds.length + f.dfl.length) :
    callD fns wf (n + 1) i ds = runF f (denSs (callD fns wf n) wf f.body ((ds ++ f.dfl.drop (f.dfl.length - (f.ps.length - ds.length))).map some ++ List.replicate (f.N.length - f.ps.length) none)) := by
  rw [callD, h]
  show (if _ ∧ _ then _ else _) = _
  rw [if_pos ⟨h1, h2⟩]
/-- what comes behind: it's given as an instance, so that simp leaves it alone -/
class Kt (β : Type) where
  go : β
def R.bi {α β : Type} (r : R α) [f : Kt (α → Env → R β)] : R β := r.bind f.go
def R.nj {α : Type} (r : R α) [f : Kt (α → Env → O)] : O := r.nx f.go
@[simp ↓] theorem bind_in {α β : Type} {r : R α} {f : α → Env → R β} : r.bind f = @R.bi α β r ⟨f⟩ := rfl
@[simp ↓] theorem nx_in {α : Type} {r : R α} {f : α → Env → O} : r.nx f = @R.nj α r ⟨f⟩ := rfl
theorem bind_go {α β : Type} {a : α} {ρ : Env} {f : α → Env → R β} : (R.ok a ρ).bind f = f a ρ := rfl
theorem nx_go {α : Type} {a : α} {ρ : Env} {f : α → Env → O} : (R.ok a ρ).nx f = f a ρ := rfl
@[simp] theorem bi_go {α β : Type} {a : α} {ρ : Env} {f : α → Env → R β} : @R.bi α β (R.ok a ρ) ⟨f⟩ = f a ρ := rfl
@[simp] theorem nj_go {α : Type} {a : α} {ρ : Env} {f : α → Env → O} : @R.nj α (R.ok a ρ) ⟨f⟩ = f a ρ := rfl
@[simp] theorem opt_go {α : Type} {a : α} {ρ : Env} : R.opt (some a) ρ = .ok a ρ := rfl
@[simp] theorem grd_go {α : Type} {r : R α} : R.grd true r = r := rfl
/-- one statement, then the others -/
def O.sq (o : O) (f : Env → O) : O := match o with
  | .nx ρ => f ρ
  | r => r
def O.sj (o : O) [f : Kt (Env → O)] : O := o.sq f.go
@[simp ↓] theorem sq_in {o : O} {f : Env → O} : o.sq f = @O.sj o ⟨f⟩ := rfl
@[simp] theorem sj_nx {ρ : Env} {f : Env → O} : @O.sj (O.nx ρ) ⟨f⟩ = f ρ := rfl
@[simp] theorem sj_rt {d : D} {ρ : Env} {f : Env → O} : @O.sj (O.rt d ρ) ⟨f⟩ = .rt d ρ := rfl
@[simp] theorem sj_bk {ρ : Env} {f : Env → O} : @O.sj (O.bk ρ) ⟨f⟩ = .bk ρ := rfl
@[simp] theorem sj_ct {ρ : Env} {f : Env → O} : @O.sj (O.ct ρ) ⟨f⟩ = .ct ρ := rfl
@[simp] theorem getS_0 {o : Option D} {ρ : Env} : getS (o :: ρ) 0 = o := by unfold getS; rfl
@[simp] theorem getS_s {o : Option D} {ρ : Env} {i : Nat} : getS (o :: ρ) (i + 1) = getS ρ i := by unfold getS; rw [List.getElem?_cons_succ]
@[simp] theorem setS_go {ρ : Env} {i : Nat} {d : D} (h : i < ρ.length) : setS ρ i d = .ok () (ρ.set i (some d)) := by unfold setS; rw [if_pos h]
@[simp] theorem setSs_nil {ρ : Env} : setSs ρ [] [] = .ok () ρ := by unfold setSs; rfl
@[simp] theorem setSs_cons {ρ : Env} {i : Nat} {is : List Nat} {d : D} {ds : List D} : setSs ρ (i :: is) (d :: ds) = (setS ρ i d).bind fun _ ρ => setSs ρ is ds := by rw [setSs]
@[simp] theorem frzS_nil {vs : List Nat} : frzS vs [] = [] := rfl
def intD : D → Option Int
  | .int i => some i
  | _ => none
@[simp] theorem intD_int {i : Int} : intD (.int i) = some i := rfl
def revD : D → Option D
  | .lst _ xs => some (.lst true xs.reverse)
  | .scr xs => some (.lst true xs.reverse)
  | _ => none
@[simp] theorem revD_lst {o : Bool} {xs : List D} : revD (.lst o xs) = some (.lst true xs.reverse) := rfl
section
variable {cf : Nat → List D → Option (D × List D)} {wf : Nat} {ρ : Env}
theorem x_dummy : True := trivial
@[simp] theorem x_nm {i : Nat} : den cf (.nm i) ρ = R.opt ((getS ρ i).map frz) ρ := by rw [den]
@[simp] theorem x_mv {i : Nat} : den cf (.mv i) ρ = R.opt (getS ρ i) (ρ.set i none) := by rw [den]
@[simp] theorem x_cst {d : D} : den cf (.cst d) ρ = .ok d ρ := by rw [den]
@[simp] theorem x_glob {x : Str} {d : D} : den cf (.glob x d) ρ = .ok d ρ := by rw [den]
@[simp] theorem x_bin {op : BOp} {q : Bool} {a b : E} : den cf (.bin op q a b) ρ = (den cf a ρ).bind fun x ρ1 => (den cf b ρ1).bind fun y ρ2 => R.grd (q || nfm x) (R.opt (binD op (frz x) (frz y)) ρ2) := by rw [den]
@[simp] theorem x_neg {a : E} : den cf (.neg a) ρ = (den cf a ρ).bind fun x ρ1 => R.opt ((intD x).map fun i => .int (-i)) ρ1 := by
  rw [den]
  cases den cf a ρ with
  | ok x ρ1 => cases x <;> rfl
  | bad => rfl
@[simp] theorem x_cmp {op : COp} {q : Bool} {a b : E} : den cf (.cmp op q a b) ρ = (den cf a ρ).bind fun x ρ1 => (den cf b ρ1).bind fun y ρ2 => R.grd (q || nfm x) (R.opt ((cmpD op (frz x) (frz y)).map .bl) ρ2) := by rw [den]
def R.br {α : Type} (o : Option Bool) (t f : R α) : R α := match o with
  | some true => t
  | some false => f
  | none => .bad
def R.bj {α : Type} (o : Option Bool) [t : Kt (R α)] [f : Kt (R α)] : R α := R.br o t.go f.go
@[simp ↓] theorem br_in {α : Type} {o : Option Bool} {t f : R α} : R.br o t f = @R.bj α o ⟨t⟩ ⟨f⟩ := rfl
@[simp] theorem bj_t {α : Type} {t f : R α} : @R.bj α (some true) ⟨t⟩ ⟨f⟩ = t := rfl
@[simp] theorem bj_f {α : Type} {t f : R α} : @R.bj α (some false) ⟨t⟩ ⟨f⟩ = f := rfl
@[simp] theorem bj_d {α : Type} {p : Prop} [Decidable p] {t f : R α} : @R.bj α (some (decide p)) ⟨t⟩ ⟨f⟩ = if p then t else f := by
  by_cases h : p <;> simp [h]
@[simp] theorem x_chn {o1 o2 : COp} {q1 q2 : Bool} {a b c : E} : den cf (.chn o1 o2 q1 q2 a b c) ρ = (den cf a ρ).bind fun x ρ1 => (den cf b ρ1).bind fun y ρ2 => R.grd ((q1 || nfm x) && flat y) (R.br (cmpD o1 (frz x) y) ((den cf c ρ2).bind fun z ρ3 => R.opt ((cmpD o2 y (frz z)).map .bl) ρ3) (.ok (.bl false) ρ2)) := by
  rw [den]; rfl
@[simp] theorem x_and {a b : E} : den cf (.and a b) ρ = (den cf a ρ).bind fun x ρ1 => R.br (truthD x) (den cf b ρ1) (.ok x ρ1) := by rw [den]; rfl
@[simp] theorem x_or {a b : E} : den cf (.or a b) ρ = (den cf a ρ).bind fun x ρ1 => R.br (truthD x) (.ok x ρ1) (den cf b ρ1) := by rw [den]; rfl
@[simp] theorem x_shr {a : E} : den cf (.shr a) ρ = (den cf a ρ).bind fun x ρ1 => .ok (frz x) ρ1 := by rw [den]
@[simp] theorem x_ixc {i : Nat} {b : E} : den cf (.ixc i b) ρ = (R.opt (getS ρ i) ρ).bind fun _ ρ => (den cf b ρ).bind fun y ρ1 => R.opt ((getS ρ1 i).bind fun d => if kidD d then ixD (frz d) (frz y) else none) ρ1 := by rw [den]
@[simp] theorem x_mxd {mn : Bool} {a : E} {d : D} : den cf (.mxd mn a d) ρ = (den cf a ρ).bind fun x ρ1 => R.opt (mxD mn d (frz x)) ρ1 := by rw [den]
@[simp] theorem x_callk {f n : Nat} {ks : List Str} {arr : List (Bool × Nat)} {dfl : List D} {es es2 : Es} : den cf (.callk f n ks arr dfl es es2) ρ = (denEs cf es ρ).bind fun xs ρ1 => (denEs cf es2 ρ1).bind fun zs ρ2 => R.grd (nods xs && nods zs && decide (xs.length = n ∧ zs.length = ks.length ∧ (arrL arr dfl (xs ++ zs)).length = arr.length)) (R.kc (cf f (arrL arr dfl (xs ++ zs))) ρ2) := by rw [den]
@[simp] theorem kc_go {d : D} : R.kc (some (d, [])) ρ = .ok d ρ := rfl
@[simp] theorem arr_nil {α : Type} {dfl xs : List α} : arrL [] dfl xs = [] := rfl
@[simp] theorem arr_f {α : Type} {dfl xs : List α} {i : Nat} {arr : List (Bool × Nat)} : arrL ((false, i) :: arr) dfl xs = (xs[i]?).toList ++ arrL arr dfl xs := by
  unfold arrL
  cases h : xs[i]? <;> simp [List.filterMap_cons, h]
@[simp] theorem arr_t {α : Type} {dfl xs : List α} {i : Nat} {arr : List (Bool × Nat)} : arrL ((true, i) :: arr) dfl xs = (dfl[i]?).toList ++ arrL arr dfl xs := by
  unfold arrL
  cases h : dfl[i]? <;> simp [List.filterMap_cons, h]
@[simp] theorem x_srt {a : E} : den cf (.srt a) ρ = (den cf a ρ).bind fun x ρ1 => R.opt (srtD (frz x)) ρ1 := by rw [den]
@[simp] theorem x_one {a : E} : den cf (.one a) ρ = den cf a ρ := by rw [den]
@[simp] theorem x_not {a : E} : den cf (.not a) ρ = (den cf a ρ).bind fun x ρ1 => R.opt ((truthD x).map fun b => .bl (!b)) ρ1 := by rw [den]
@[simp] theorem x_ifx {c a b : E} : den cf (.ifx c a b) ρ = (den cf c ρ).bind fun x ρ1 => R.br (truthD x) (den cf a ρ1) (den cf b ρ1) := by rw [den]; rfl
@[simp] theorem x_tup {es : Es} : den cf (.tup es) ρ = (denEs cf es ρ).bind fun xs ρ1 => R.grd (decide (xs.length ≤ sizeLine)) (.ok (.tup xs) ρ1) := by rw [den]
@[simp] theorem x_lst {es : Es} : den cf (.lst es) ρ = (denEs cf es ρ).bind fun xs ρ1 => R.grd (decide (xs.length ≤ sizeLine)) (.ok (.lst true xs) ρ1) := by rw [den]
@[simp] theorem x_dct {ks : List Key} {es : Es} : den cf (.dct ks es) ρ = (denEs cf es ρ).bind fun xs ρ1 => .ok (.dk true ks xs) ρ1 := by rw [den]
@[simp] theorem x_ix {q : Bool} {a i : E} : den cf (.ix q a i) ρ = (den cf a ρ).bind fun x ρ1 => (den cf i ρ1).bind fun y ρ2 => R.grd (q || nfm x) (R.opt (ixD (frz x) (frz y)) ρ2) := by rw [den]
@[simp] theorem x_sl {q1 q2 : Bool} {a : E} {lo hi : E1} : den cf (.sl q1 q2 a lo hi) ρ = (den cf a ρ).bind fun x ρ1 => (denO cf lo ρ1).bind fun l ρ2 => (denO cf hi ρ2).bind fun h ρ3 => R.grd (q1 || nfm x) (R.opt (slD (frz x) l h) ρ3) := by rw [den]
@[simp] theorem x_rev {a : E} : den cf (.rev a) ρ = (den cf a ρ).bind fun x ρ1 => R.opt (revD (frz x)) ρ1 := by
  rw [den]
  cases den cf a ρ with
  | ok x ρ1 =>
    simp only [bind_go]
    cases frz x <;> rfl
  | bad => rfl
def R.ret (o : Option (D × List D)) (ρ1 : Env) (is : List Nat) : R D := match o with
  | some (d, os) => R.opt ((putIos ρ1 is os).map fun _ => d) ((putIos ρ1 is os).getD [])
  | none => .bad
@[simp] theorem ret_go {d : D} {os : List D} {ρ1 ρ2 : Env} {is : List Nat} (h : putIos ρ1 is os = some ρ2) : R.ret (some (d, os)) ρ1 is = .ok d ρ2 := by
  show R.opt ((putIos ρ1 is os).map fun _ => d) ((putIos ρ1 is os).getD []) = _
  rw [h]
  rfl
@[simp] theorem x_call {q : Bool} {f : Nat} {es : Es} : den cf (.call q f es) ρ = (denEs cf es ρ).bind fun xs ρ1 => R.grd (q || nfms xs) (R.ret (cf f xs) ρ1 es.ios) := by rw [den]; rfl
@[simp] theorem x_bi {b : BI} {es : Es} : den cf (.bi b es) ρ = (denEs cf es ρ).bind fun xs ρ1 => R.opt (biD b (frzs xs)) ρ1 := by rw [den]
@[simp] theorem x_mt {m : MT} {q : Bool} {o : E} {es : Es} : den cf (.mt m q o es) ρ = (den cf o ρ).bind fun x ρ1 => (denEs cf es ρ1).bind fun ys ρ2 => R.grd (q || nfm x) (R.opt (mtD m (frz x) (frzs ys)) ρ2) := by rw [den]
/-- o.m(..), behind the path and the arguments -/
def R.mut (m : MU) (ks ys : List D) (i : Nat) (ρ1 : Env) : R D := match getS ρ1 i with
  | none => .bad
  | some d => match (getP d ks).bind fun c => muD m c ys with
    | none => .bad
    | some (r, c') => match putP d ks c' with
      | none => .bad
      | some d' => .ok r (ρ1.set i (some d'))
theorem mut_go {m : MU} {ks ys : List D} {i : Nat} {ρ1 : Env} {d c r c' d' : D} (h1 : getS ρ1 i = some d) (h2 : getP d ks = some c) (h3 : muD m c ys = some (r, c')) (h4 : putP d ks c' = some d') : R.mut m ks ys i ρ1 = .ok r (ρ1.set i (some d')) := by
  unfold R.mut
  simp only [h1, h2, Option.bind_some, h3, h4]
@[simp] theorem x_mu {m : MU} {p : Pth} {es : Es} : den cf (.mu m p es) ρ = (denP cf p ρ).bind fun ks ρ0 => (denEs cf es ρ0).bind fun ys ρ1 => R.grd (nfms ys || es.U.all (nodS ρ1)) (R.mut m ks ys p.slot ρ1) := by rw [den]; rfl
@[simp] theorem x_isi {a : E} {cs : List Ty} : den cf (.isi a cs) ρ = (den cf a ρ).bind fun x ρ1 => R.opt ((tyD x).map fun t => .bl (cs.any (isiT t))) ρ1 := by rw [den]
/-- a comprehension's turn -/
def lcB (cf : Nat → List D → Option (D × List D)) (t : T) (ifs : E1) (elt : E) (x : D) (ρ : Env) : R (Option D) := (denT cf t x ρ).bind fun _ ρ => (den1 cf ifs ρ).bind fun b ρ => if b = true then (den cf elt ρ).bind fun y ρ => .ok (some y) ρ else .ok none ρ
@[simp] theorem x_lc {own : List Nat} {q q2 : Bool} {t : T} {vs : List Nat} {it : I} {ifs : E1} {elt : E} : den cf (.lc own q q2 t vs it ifs elt) ρ = (denI cf it ρ).bind fun xs ρ1 => R.grd (vs.all (nodS ρ1) || (q && nfms xs)) ((lcL own q2 (lcB cf t ifs elt) xs ρ1).bind fun ys ρ2 =>
    R.grd (decide (ys.length ≤ sizeLine)) (.ok (.lst true ys) (restS ρ1 own ρ2))) := by rw [den]; rfl
@[simp] theorem x1_no : den1 cf .no ρ = .ok true ρ := by rw [den1]
@[simp] theorem x1_yes {e : E} : den1 cf (.yes e) ρ = (den cf e ρ).bind fun x ρ1 => R.opt (truthD x) ρ1 := by rw [den1]
@[simp] theorem xo_no : denO cf .no ρ = .ok none ρ := by rw [denO]
@[simp] theorem xo_yes {e : E} : denO cf (.yes e) ρ = (den cf e ρ).bind fun x ρ1 => R.opt ((intD x).map some) ρ1 := by
  rw [denO]
  cases den cf e ρ with
  | ok x ρ1 => cases x <;> rfl
  | bad => rfl
@[simp] theorem xs_nil : denEs cf .nil ρ = .ok [] ρ := by rw [denEs]
@[simp] theorem xs_cons {q : Bool} {e : E} {es : Es} : denEs cf (.cons q e es) ρ = (den cf e ρ).bind fun x ρ1 => (denEs cf es ρ1).bind fun xs ρ2 => R.grd (q || nfm x) (.ok (x :: xs) ρ2) := by rw [denEs]
@[simp] theorem xs_io {i : Nat} {es : Es} : denEs cf (.io i es) ρ = R.grd (getS ρ i).isSome ((denEs cf es ρ).bind fun xs ρ1 => R.opt ((getS ρ1 i).map fun d => d :: xs) ρ1) := by rw [denEs]
@[simp] theorem xi_seq {e : E} : denI cf (.seq e) ρ = (den cf e ρ).bind fun x ρ1 => R.opt (iterD (frz x)) ρ1 := by rw [denI]
@[simp] theorem xi_rng1 {e : E} : denI cf (.rng1 e) ρ = (den cf e ρ).bind fun x ρ1 => R.opt ((intD x).bind fun j => if big j = true then some (rngL 0 j.toNat) else none) ρ1 := by
  rw [denI]
  cases den cf e ρ with
  | ok x ρ1 => cases x <;> rfl
  | bad => rfl
@[simp] theorem xi_rng2 {a b : E} : denI cf (.rng2 a b) ρ = (den cf a ρ).bind fun x ρ1 => (R.opt (intD x) ρ1).bind fun i ρ1 => (den cf b ρ1).bind fun y ρ2 => R.opt ((intD y).bind fun j => rngD i j) ρ2 := by
  rw [denI]
  cases den cf a ρ with
  | ok x ρ1 =>
    cases x <;> try rfl
    simp only [bind_go]
    show ((den cf b ρ1).bind _) = ((R.ok _ ρ1).bind _)
    rw [bind_go]
    cases den cf b ρ1 with
    | ok y ρ2 => cases y <;> rfl
    | bad => rfl
  | bad => rfl
@[simp] theorem xi_enum {e : E} : denI cf (.enum e) ρ = (den cf e ρ).bind fun x ρ1 => R.opt ((seqD (frz x)).map (enumL 0)) ρ1 := by rw [denI]
@[simp] theorem xi_zip {q : Bool} {a b : E} : denI cf (.zip q a b) ρ = (den cf a ρ).bind fun x ρ1 => (den cf b ρ1).bind fun y ρ2 => R.grd (q || nfm x) (R.opt (zipD (frz x) (frz y)) ρ2) := by rw [denI]
@[simp] theorem xp_sl {i : Nat} : denP cf (.sl i) ρ = .ok [] ρ := by rw [denP]
@[simp] theorem xp_ix {p : Pth} {e : E} : denP cf (.ix p e) ρ = (denP cf p ρ).bind fun ks ρ1 => (den cf e ρ1).bind fun k ρ2 => R.grd (flat k) (.ok (ks ++ [k]) ρ2) := by rw [denP]
@[simp] theorem xt_nm {i : Nat} {d : D} : denT cf (.nm i) d ρ = setS ρ i d := by rw [denT]
@[simp] theorem xt_tup {ts : Ts} {xs : List D} : denT cf (.tup ts) (.tup xs) ρ = denTs cf ts xs ρ := by rw [denT]
/-- a[k] = v, behind the path and the key -/
def R.put (ks : List D) (k v : D) (i : Nat) (ρ1 : Env) : R Unit := match getS ρ1 i with
  | none => .bad
  | some d => match (getP d ks).bind fun c => setD c k v with
    | none => .bad
    | some c' => match putP d ks c' with
      | none => .bad
      | some d' => .ok () (ρ1.set i (some d'))
theorem put_go {ks : List D} {k v d c c' d' : D} {i : Nat} {ρ1 : Env} (h1 : getS ρ1 i = some d) (h2 : getP d ks = some c) (h3 : setD c k v = some c') (h4 : putP d ks c' = some d') : R.put ks k v i ρ1 = .ok () (ρ1.set i (some d')) := by
  unfold R.put
  simp only [h1, h2, Option.bind_some, h3, h4]
@[simp] theorem xt_sub {p : Pth} {e : E} {v : D} : denT cf (.sub p e) v ρ = (denP cf p ρ).bind fun ks ρ0 => (den cf e ρ0).bind fun k ρ1 => R.grd (flat k) (R.put ks k v p.slot ρ1) := by rw [denT]; rfl
@[simp] theorem xts_nil : denTs cf .nil [] ρ = .ok () ρ := by rw [denTs]
@[simp] theorem xts_cons {t : T} {ts : Ts} {x : D} {xs : List D} : denTs cf (.cons t ts) (x :: xs) ρ = (denT cf t x ρ).bind fun _ ρ => denTs cf ts xs ρ := by rw [denTs]
@[simp] theorem z_asg {t : T} {vs : List Nat} {e : E} : denS cf wf (.asg t vs e) ρ = (den cf e ρ).nx fun x ρ1 => (denT cf t x (if nfm x then ρ1 else frzS vs ρ1)).nx fun _ ρ2 => .nx ρ2 := by rw [denS]
def eachO (o : Option D) (i j : Nat) (d : D) (ρ : Env) : O := match o with
  | some (.lst true xs) => if i ≠ j ∧ flat d = true ∧ xs.all (ownB xs.length) = true ∧ i < ρ.length then .nx ((ρ.set j none).set i none) else .bad
  | _ => .bad
@[simp] theorem z_each {i j : Nat} {d : D} : denS cf wf (.each i j d) ρ = eachO (getS ρ j) i j d ρ := by
  rw [denS]
  unfold eachO
  cases getS ρ j with
  | none => rfl
  | some x =>
    cases x <;> first | rfl | (rename_i o xs; cases o <;> rfl)
@[simp] theorem eachO_go {i j : Nat} {d : D} {xs : List D} : eachO (some (.lst true xs)) i j d ρ = if i ≠ j ∧ flat d = true ∧ xs.all (ownB xs.length) = true ∧ i < ρ.length then .nx ((ρ.set j none).set i none) else .bad := rfl
@[simp] theorem ownB_go {n : Nat} {xs : List D} : ownB n (.lst true xs) = decide (xs.length + n < sizeLine) := rfl
@[simp] theorem z_par {is vs : List Nat} {es : Es} : denS cf wf (.par is vs es) ρ = (denEs cf es ρ).nx fun xs ρ1 => (setSs (if nfms xs then ρ1 else frzS vs ρ1) is xs).nx fun _ ρ2 => .nx ρ2 := by rw [denS]
@[simp] theorem z_aug {i : Nat} {op : BOp} {e : E} : denS cf wf (.aug i op e) ρ = (R.opt (getS ρ i) ρ).nx fun x ρ => if flat x = true then (den cf e ρ).nx fun y ρ1 => if flat y = true then (R.opt (augD op x y) ρ1).nx fun z ρ2 => (setS ρ2 i z).nx fun _ ρ3 => .nx ρ3 else .bad else .bad := by
  rw [denS]
  cases getS ρ i with
  | none => rfl
  | some x => rfl
@[simp] theorem z_ex {e : E} : denS cf wf (.ex e) ρ = (den cf e ρ).nx fun _ ρ1 => .nx ρ1 := by rw [denS]
@[simp] theorem z_ite {c : E} {a b : Ss} : denS cf wf (.ite c a b) ρ = (den cf c ρ).nx fun x ρ1 => (R.opt (truthD x) ρ1).nx fun t ρ1 => if t = true then denSs cf wf a ρ1 else denSs cf wf b ρ1 := by
  rw [denS]
  unfold denB
  cases den cf c ρ with
  | ok x ρ1 => rfl
  | bad => rfl
@[simp] theorem z_ret {vs : List Nat} {e : E} : denS cf wf (.ret vs e) ρ = (den cf e ρ).nx fun x ρ1 => .rt x (if nfm x then ρ1 else frzS vs ρ1) := by rw [denS]
@[simp] theorem z_retn : denS cf wf .retn ρ = .rt .non ρ := by rw [denS]
@[simp] theorem z_brk : denS cf wf .brk ρ = .bk ρ := by rw [denS]
@[simp] theorem z_cnt : denS cf wf .cnt ρ = .ct ρ := by rw [denS]
@[simp] theorem z_pas : denS cf wf .pas ρ = .nx ρ := by rw [denS]
/-- a loop's turn -/
def forB (cf : Nat → List D → Option (D × List D)) (wf : Nat) (t : T) (body : Ss) (x : D) (ρ : Env) : O := (denT cf t x ρ).nx fun _ ρ => denSs cf wf body ρ
@[simp] theorem z_for {t : T} {vs : List Nat} {q : Bool} {it : I} {body : Ss} : denS cf wf (.for_ t vs q it body) ρ = (denI cf it ρ).nx fun xs ρ1 => forL (forB cf wf t body) xs (if q && nfms xs then ρ1 else frzS vs ρ1) := by rw [denS]; rfl
@[simp] theorem zs_nil : denSs cf wf .nil ρ = .nx ρ := by rw [denSs]
@[simp] theorem zs_cons {s : S} {ss : Ss} : denSs cf wf (.cons s ss) ρ = (denS cf wf s ρ).sq fun ρ' => denSs cf wf ss ρ' := by
  rw [denSs]
  cases denS cf wf s ρ <;> rfl
end
@[simp] theorem frz_int {i : Int} : frz (.int i) = .int i := by rw [frz]
@[simp] theorem frz_str {s : Str} : frz (.str s) = .str s := by rw [frz]
@[simp] theorem frz_bl {b : Bool} : frz (.bl b) = .bl b := by rw [frz]
@[simp] theorem frz_non : frz .non = .non := by rw [frz]
@[simp] theorem frz_tup {xs : List D} : frz (.tup xs) = .tup (frzs xs) := by rw [frz]
@[simp] theorem frz_lst {o : Bool} {xs : List D} : frz (.lst o xs) = .lst false (frzs xs) := by rw [frz]
@[simp] theorem frz_scr {xs : List D} : frz (.scr xs) = .scr (frzs xs) := by rw [frz]
@[simp] theorem frz_dk {o : Bool} {ks : List Key} {xs : List D} : frz (.dk o ks xs) = .dk false ks (frzs xs) := by rw [frz]
@[simp] theorem frzs_nil : frzs [] = [] := by rw [frzs]
@[simp] theorem frzs_cons {x : D} {xs : List D} : frzs (x :: xs) = frz x :: frzs xs := by rw [frzs]
theorem frzs_map : ∀ (xs : List D), frzs xs = xs.map frz
  | [] => by simp
  | x :: xs => by simp [frzs_map xs]
theorem frzs_app {xs ys : List D} : frzs (xs ++ ys) = frzs xs ++ frzs ys := by simp [frzs_map]
theorem frzs_len {xs : List D} : (frzs xs).length = xs.length := by simp [frzs_map]
theorem frz_flat' {d : D} (h : flat d = true) : frz d = d := frz_flat h
@[simp] theorem nfm_int {i : Int} : nfm (.int i) = true := by rw [nfm]; all_goals intros; contradiction
@[simp] theorem nfm_str {s : Str} : nfm (.str s) = true := by rw [nfm]; all_goals intros; contradiction
@[simp] theorem nfm_bl {b : Bool} : nfm (.bl b) = true := by rw [nfm]; all_goals intros; contradiction
@[simp] theorem nfm_non : nfm .non = true := by rw [nfm]; all_goals intros; contradiction
@[simp] theorem nfm_tup {xs : List D} : nfm (.tup xs) = nfms xs := by rw [nfm]
@[simp] theorem nfm_lst {o : Bool} {xs : List D} : nfm (.lst o xs) = (o && nfms xs) := by rw [nfm]
@[simp] theorem nfm_scr {xs : List D} : nfm (.scr xs) = nfms xs := by rw [nfm]
@[simp] theorem nfm_dk {o : Bool} {ks : List Key} {xs : List D} : nfm (.dk o ks xs) = (o && nfms xs) := by rw [nfm]
@[simp] theorem nfms_nil : nfms [] = true := by rw [nfms]
@[simp] theorem nfms_cons {x : D} {xs : List D} : nfms (x :: xs) = (nfm x && nfms xs) := by rw [nfms]
theorem nfms_all : ∀ (xs : List D), nfms xs = xs.all nfm
  | [] => by simp
  | x :: xs => by simp [nfms_all xs]
@[simp] theorem nod_int {i : Int} : nod (.int i) = true := by rw [nod]; all_goals intros; contradiction
@[simp] theorem nod_str {s : Str} : nod (.str s) = true := by rw [nod]; all_goals intros; contradiction
@[simp] theorem nod_bl {b : Bool} : nod (.bl b) = true := by rw [nod]; all_goals intros; contradiction
@[simp] theorem nod_non : nod .non = true := by rw [nod]; all_goals intros; contradiction
@[simp] theorem nod_tup {xs : List D} : nod (.tup xs) = nods xs := by rw [nod]
@[simp] theorem nod_lst {o : Bool} {xs : List D} : nod (.lst o xs) = (!o && nods xs) := by rw [nod]
@[simp] theorem nods_nil : nods [] = true := by rw [nods]
@[simp] theorem nods_cons {x : D} {xs : List D} : nods (x :: xs) = (nod x && nods xs) := by rw [nods]
/-! whole lists of flat things -/
theorem flat_frzs {xs : List D} (h : ∀ x, x ∈ xs → flat x = true) : frzs xs = xs := by
  rw [frzs_map]
  exact (List.map_congr_left fun x hx => frz_flat (h x hx)).trans (List.map_id _)
theorem flat_nfm {x : D} (h : flat x = true) : nfm x = true := by cases x <;> first | (cases h; done) | simp
theorem flat_nfms {xs : List D} (h : ∀ x, x ∈ xs → flat x = true) : nfms xs = true := by
  rw [nfms_all, List.all_eq_true]
  exact fun x hx => flat_nfm (h x hx)
@[simp] theorem frzs_ints {ns : List Int} : frzs (ns.map .int) = ns.map .int := flat_frzs fun x hx => by obtain ⟨i, _, rfl⟩ := List.mem_map.mp hx; rfl
@[simp] theorem nfms_ints {ns : List Int} : nfms (ns.map .int) = true := flat_nfms fun x hx => by obtain ⟨i, _, rfl⟩ := List.mem_map.mp hx; rfl
@[simp] theorem frzs_strs {ns : List Str} : frzs (ns.map .str) = ns.map .str := flat_frzs fun x hx => by obtain ⟨i, _, rfl⟩ := List.mem_map.mp hx; rfl
@[simp] theorem nfms_strs {ns : List Str} : nfms (ns.map .str) = true := flat_nfms fun x hx => by obtain ⟨i, _, rfl⟩ := List.mem_map.mp hx; rfl
/-! loops -/
theorem forL_run {f : D → Env → O} {xs : List D} (I : Nat → Env → Prop) (step : ∀ (i : Nat) (x : D) (ρ : Env), xs[i]? = some x → I i ρ → ∃ ρ', (f x ρ = .nx ρ' ∨ f x ρ = .ct ρ') ∧ I (i + 1) ρ') {ρ : Env} (h0 : I 0 ρ) : ∃ ρ', forL f xs ρ = .nx ρ' ∧ I xs.length ρ' := by
  have key : ∀ (ys : List D) (k : Nat) (ρ : Env), xs.drop k = ys → k ≤ xs.length → I k ρ → ∃ ρ', forL f ys ρ = .nx ρ' ∧ I xs.length ρ' := by
    intro ys
    induction ys with
    | nil =>
      intro k ρ hd hk hi
      have := congrArg List.length hd
      rw [List.length_drop, List.length_nil] at this
      have e : k = xs.length := by omega
      subst e
      exact ⟨ρ, by rw [forL], hi⟩
    | cons y ys ih =>
      intro k ρ hd hk hi
      have hx : xs[k]? = some y := by
        have := List.getElem?_drop (xs := xs) (i := k) (j := 0)
        rw [hd] at this
        simpa using this.symm
      have hlt : k < xs.length := (List.getElem?_eq_some_iff.mp hx).1
      have hd' : xs.drop (k + 1) = ys := by
        rw [← List.tail_drop, hd]; rfl
      obtain ⟨ρ1, h1, h2⟩ := step k y ρ hx hi
      obtain ⟨ρ2, h3, h4⟩ := ih (k + 1) ρ1 hd' hlt h2
      refine ⟨ρ2, ?_, h4⟩
      rw [forL]
      rcases h1 with h1 | h1 <;> rw [h1] <;> exact h3
  exact key xs 0 ρ rfl (Nat.zero_le _) h0
/-- a loop that may end early by a return -/
theorem forL_ret {f : D → Env → O} {xs : List D} (I : Nat → Env → Prop) (Z : D → Env → Prop) (step : ∀ (i : Nat) (x : D) (ρ : Env), xs[i]? = some x → I i ρ → (∃ ρ', (f x ρ = .nx ρ' ∨ f x ρ = .ct ρ') ∧ I (i + 1) ρ') ∨ ∃ d ρ', f x ρ = .rt d ρ' ∧ Z d ρ') {ρ : Env} (h0 : I 0 ρ) :
    (∃ ρ', forL f xs ρ = .nx ρ' ∧ I xs.length ρ') ∨ ∃ d ρ', forL f xs ρ = .rt d ρ' ∧ Z d ρ' := by
  have key : ∀ (ys : List D) (k : Nat) (ρ : Env), xs.drop k = ys → k ≤ xs.length → I k ρ → (∃ ρ', forL f ys ρ = .nx ρ' ∧ I xs.length ρ') ∨ ∃ d ρ', forL f ys ρ = .rt d ρ' ∧ Z d ρ' := by
    intro ys
    induction ys with
    | nil =>
      intro k ρ hd hk hi
      have := congrArg List.length hd
      rw [List.length_drop, List.length_nil] at this
      have e : k = xs.length := by omega
      subst e
      exact .inl ⟨ρ, by rw [forL], hi⟩
    | cons y ys ih =>
      intro k ρ hd hk hi
      have hx : xs[k]? = some y := by
        have := List.getElem?_drop (xs := xs) (i := k) (j := 0)
        rw [hd] at this
        simpa using this.symm
      have hlt : k < xs.length := (List.getElem?_eq_some_iff.mp hx).1
      have hd' : xs.drop (k + 1) = ys := by
        rw [← List.tail_drop, hd]; rfl
      rw [forL]
      rcases step k y ρ hx hi with ⟨ρ1, h1, h2⟩ | ⟨d, ρ1, h1, h2⟩
      · rcases h1 with h1 | h1 <;> rw [h1] <;> exact ih (k + 1) ρ1 hd' hlt h2
      · rw [h1]
        exact .inr ⟨d, ρ1, rfl, h2⟩
  exact key xs 0 ρ rfl (Nat.zero_le _) h0
/-- a comprehension: what each turn gives -/
theorem lcL_run {own : List Nat} {q : Bool} {body : D → Env → R (Option D)} {xs : List D} (I : Nat → Env → Prop) (Z : Nat → D → Option D → Prop)
    (step : ∀ (i : Nat) (x : D) (ρ : Env), xs[i]? = some x → I i ρ → ∃ o ρ', body x (wipeS ρ own) = .ok o ρ' ∧ I (i + 1) ρ' ∧ Z i x o ∧ ∀ d, o = some d → (q || nfm d) = true) {ρ : Env} (h0 : I 0 ρ) :
    ∃ (os : List (Option D)) (ρ' : Env), lcL own q body xs ρ = .ok (os.filterMap id) ρ' ∧ I xs.length ρ' ∧ os.length = xs.length ∧ ∀ (i : Nat) (x : D) (o : Option D), xs[i]? = some x → os[i]? = some o → Z i x o := by
  have key : ∀ (ys : List D) (k : Nat) (ρ : Env), xs.drop k = ys → k ≤ xs.length → I k ρ → ∃ (os : List (Option D)) (ρ' : Env), lcL own q body ys ρ = .ok (os.filterMap id) ρ' ∧ I xs.length ρ' ∧ os.length = ys.length ∧ ∀ (i : Nat) (x : D) (o : Option D), ys[i]? = some x → os[i]? = some o → Z (k + i) x o := by
    intro ys
    induction ys with
    | nil =>
      intro k ρ hd hk hi
      have := congrArg List.length hd
      rw [List.length_drop, List.length_nil] at this
      have e : k = xs.length := by omega
      subst e
      exact ⟨[], ρ, by rw [lcL]; rfl, hi, rfl, fun i x o h => by simp at h⟩
    | cons y ys ih =>
      intro k ρ hd hk hi
      have hx : xs[k]? = some y := by
        have := List.getElem?_drop (xs := xs) (i := k) (j := 0)
        rw [hd] at this
        simpa using this.symm
      have hlt : k < xs.length := (List.getElem?_eq_some_iff.mp hx).1
      have hd' : xs.drop (k + 1) = ys := by
        rw [← List.tail_drop, hd]; rfl
      obtain ⟨o, ρ1, h1, h2, h3, h5⟩ := step k y ρ hx hi
      obtain ⟨os, ρ2, g1, g2, g3, g4⟩ := ih (k + 1) ρ1 hd' hlt h2
      refine ⟨o :: os, ρ2, ?_, g2, by simp [g3], fun i x o' e1 e2 => ?_⟩
      · rw [lcL, h1, bind_go, g1, bind_go]
        cases o with
        | none => rfl
        | some d =>
          show R.grd (q || nfm d) _ = _
          rw [h5 d rfl]
          rfl
      · cases i with
        | zero =>
          simp at e1 e2
          subst e1 e2
          exact h3
        | succ i =>
          have := g4 i x o' (by simpa using e1) (by simpa using e2)
          have e : k + (i + 1) = k + 1 + i := by omega
          rw [e]
          exact this
  obtain ⟨os, ρ', h1, h2, h3, h4⟩ := key xs 0 ρ rfl (Nat.zero_le _) h0
  exact ⟨os, ρ', h1, h2, h3, fun i x o e1 e2 => by have := h4 i x o e1 e2; rwa [Nat.zero_add] at this⟩
end Mn

/-! Mn Ze: operations on data, as rules. -/
namespace Mn
open PySem L2
section
variable {i j : Int} {x y : Str} {a b o o' : Bool} {xs ys : List D} {n : Nat} {ks : List Key} {k : Key} {d e : D} {ρ ρ1 ρ2 : Env}
@[simp] theorem b_addI : binD .add (.int i) (.int j) = some (.int (i + j)) := rfl
@[simp] theorem b_addS : binD .add (.str x) (.str y) = if x.length + y.length ≤ sizeLine then some (.str (x ++ y)) else none := rfl
@[simp] theorem b_addL : binD .add (.lst o xs) (.lst o' ys) = if xs.length + ys.length ≤ sizeLine then some (.lst true (xs ++ ys)) else none := rfl
@[simp] theorem b_addT : binD .add (.tup xs) (.tup ys) = if xs.length + ys.length ≤ sizeLine then some (.tup (xs ++ ys)) else none := rfl
@[simp] theorem b_subI : binD .sub (.int i) (.int j) = some (.int (i - j)) := rfl
@[simp] theorem b_mulI : binD .mul (.int i) (.int j) = if (sm64 i || sm64 j) = true then some (.int (i * j)) else none := rfl
@[simp] theorem b_mulL : binD .mul (.lst o xs) (.int j) = if -(2 ^ 63) ≤ j ∧ j < 2 ^ 63 ∧ xs.length * j.toNat ≤ sizeLine then some (.lst true (List.replicate j.toNat xs).flatten) else none := rfl
@[simp] theorem b_fdivI : binD .fdiv (.int i) (.int j) = if 0 < j ∧ j.natAbs.log2 < 9000 then some (.int (i / j)) else none := rfl
@[simp] theorem b_modI : binD .mod (.int i) (.int j) = if 0 < j then some (.int (i % j)) else none := rfl
@[simp] theorem b_powI : binD .pow (.int i) (.int j) = if 0 ≤ j ∧ j ≤ 1000000 ∧ i.natAbs < 2 ^ 64 then some (.int (i ^ j.toNat)) else none := rfl
@[simp] theorem u_addI : augD .add (.int i) (.int j) = some (.int (i + j)) := rfl
theorem sm_l (h : -(2 ^ 64) < i ∧ i < 2 ^ 64) : (sm64 i || sm64 j) = true := by rw [show sm64 i = true from decide_eq_true h]; rfl
theorem sm_r (h : -(2 ^ 64) < j ∧ j < 2 ^ 64) : (sm64 i || sm64 j) = true := by rw [show sm64 j = true from decide_eq_true h]; simp
@[simp] theorem k_ltI : cmpD .lt (.int i) (.int j) = some (decide (i < j)) := rfl
@[simp] theorem k_leI : cmpD .le (.int i) (.int j) = some (decide (i ≤ j)) := rfl
@[simp] theorem k_gtI : cmpD .gt (.int i) (.int j) = some (decide (j < i)) := rfl
@[simp] theorem k_geI : cmpD .ge (.int i) (.int j) = some (decide (j ≤ i)) := rfl
@[simp] theorem k_is0 : cmpD .is .non .non = some true := rfl
@[simp] theorem k_isI : cmpD .is (.int i) .non = some false := rfl
@[simp] theorem k_isS : cmpD .is (.str x) .non = some false := rfl
@[simp] theorem k_isB : cmpD .is (.bl a) .non = some false := rfl
@[simp] theorem k_isT : cmpD .is (.tup xs) .non = some false := rfl
@[simp] theorem k_isL : cmpD .is (.lst o xs) .non = some false := rfl
@[simp] theorem k_isn0 : cmpD .isn .non .non = some false := rfl
@[simp] theorem k_isnI : cmpD .isn (.int i) .non = some true := rfl
@[simp] theorem k_isnS : cmpD .isn (.str x) .non = some true := rfl
@[simp] theorem k_isnB : cmpD .isn (.bl a) .non = some true := rfl
@[simp] theorem k_isnT : cmpD .isn (.tup xs) .non = some true := rfl
@[simp] theorem k_isnL : cmpD .isn (.lst o xs) .non = some true := rfl
theorem k_eq (h1 : plain 60 d = true) (h2 : plain 60 e = true) : cmpD .eq d e = some (eqD d e) := by
  show (if (plain 60 d && plain 60 e) = true then some (eqD d e) else none) = _
  rw [h1, h2]
  rfl
theorem k_ne (h1 : plain 60 d = true) (h2 : plain 60 e = true) : cmpD .ne d e = some (!eqD d e) := by
  show (if (plain 60 d && plain 60 e) = true then some (!eqD d e) else none) = _
  rw [h1, h2]
  rfl
@[simp] theorem p_int : plain n (.int i) = true := by rw [plain]; all_goals intros; contradiction
@[simp] theorem p_str : plain n (.str x) = true := by rw [plain]; all_goals intros; contradiction
@[simp] theorem p_bl : plain n (.bl a) = true := by rw [plain]; all_goals intros; contradiction
@[simp] theorem p_non : plain n .non = true := by rw [plain]; all_goals intros; contradiction
@[simp] theorem p_tup : plain n (.tup xs) = (n != 0 && plains (n - 1) xs) := by rw [plain]
@[simp] theorem p_lst : plain n (.lst o xs) = (n != 0 && plains (n - 1) xs) := by rw [plain]
@[simp] theorem p_scr : plain n (.scr xs) = (n != 0 && plains (n - 1) xs) := by rw [plain]
@[simp] theorem p_nil : plains n [] = true := by rw [plains]
@[simp] theorem p_cons : plains n (d :: xs) = (plain n d && plains n xs) := by rw [plains]
theorem plain_flat (h : flat d = true) : plain n d = true := by cases d <;> first | (cases h; done) | simp
theorem plains_all : ∀ (xs : List D), plains n xs = xs.all (plain n)
  | [] => by simp
  | x :: xs => by simp [plains_all xs]
theorem plains_flat {xs : List D} (h : ∀ x, x ∈ xs → flat x = true) : plains n xs = true := by
  rw [plains_all, List.all_eq_true]
  exact fun x hx => plain_flat (h x hx)
@[simp] theorem plains_ints {ns : List Int} : plains n (ns.map .int) = true := plains_flat fun x hx => by obtain ⟨i, _, rfl⟩ := List.mem_map.mp hx; rfl
@[simp] theorem plains_strs {ns : List Str} : plains n (ns.map .str) = true := plains_flat fun x hx => by obtain ⟨i, _, rfl⟩ := List.mem_map.mp hx; rfl
@[simp] theorem e_int : eqD (.int i) (.int j) = (i == j) := by rw [eqD]
@[simp] theorem e_str : eqD (.str x) (.str y) = (x == y) := by rw [eqD]
@[simp] theorem e_bl : eqD (.bl a) (.bl b) = (a == b) := by rw [eqD]
@[simp] theorem e_non : eqD .non .non = true := by rw [eqD]
@[simp] theorem e_tup : eqD (.tup xs) (.tup ys) = eqDs xs ys := by rw [eqD]
@[simp] theorem e_lst : eqD (.lst o xs) (.lst o' ys) = eqDs xs ys := by rw [eqD]
@[simp] theorem e_si : eqD (.str x) (.int i) = false := by rw [eqD]; all_goals intros; contradiction
@[simp] theorem e_is : eqD (.int i) (.str x) = false := by rw [eqD]; all_goals intros; contradiction
@[simp] theorem e_sn : eqD (.str x) .non = false := by rw [eqD]; all_goals intros; contradiction
@[simp] theorem e_ns : eqD .non (.str x) = false := by rw [eqD]; all_goals intros; contradiction
@[simp] theorem e_in : eqD (.int i) .non = false := by rw [eqD]; all_goals intros; contradiction
@[simp] theorem e_ni : eqD .non (.int i) = false := by rw [eqD]; all_goals intros; contradiction
@[simp] theorem es_nil : eqDs [] [] = true := by rw [eqDs]
@[simp] theorem es_cons {d e : D} : eqDs (d :: xs) (e :: ys) = (eqD d e && eqDs xs ys) := by rw [eqDs]
@[simp] theorem es_nc : eqDs [] (e :: ys) = false := by rw [eqDs]; all_goals intros; contradiction
@[simp] theorem es_cn : eqDs (e :: ys) [] = false := by rw [eqDs]; all_goals intros; contradiction
mutual
theorem eqD_self : ∀ {n : Nat} {d : D}, plain n d = true → eqD d d = true
  | n, .non, _ => by simp
  | n, .bl _, _ => by simp
  | n, .int _, _ => by simp
  | n, .str _, _ => by simp
  | n, .tup xs, h => by
    rw [eqD]
    rw [p_tup] at h
    exact eqDs_self ((Bool.and_eq_true _ _).mp h).2
  | n, .lst _ xs, h => by
    rw [eqD]
    rw [p_lst] at h
    exact eqDs_self ((Bool.and_eq_true _ _).mp h).2
  | n, .scr xs, h => by
    rw [eqD]
    rw [p_scr] at h
    exact eqDs_self ((Bool.and_eq_true _ _).mp h).2
  | n, .dk _ _ _, h => by simp [plain] at h
  | n, .ins _ _ _ _, h => by simp [plain] at h
theorem eqDs_self : ∀ {n : Nat} {ds : List D}, plains n ds = true → eqDs ds ds = true
  | n, [], _ => by simp
  | n, x :: xs, h => by
    rw [p_cons] at h
    have h' := (Bool.and_eq_true _ _).mp h
    rw [eqDs, eqD_self h'.1, eqDs_self h'.2]
    rfl
end
@[simp] theorem t_non : truthD .non = some false := rfl
@[simp] theorem t_bl : truthD (.bl a) = some a := rfl
@[simp] theorem t_int : truthD (.int i) = some (i != 0) := rfl
@[simp] theorem t_lst : truthD (.lst o xs) = some (!xs.isEmpty) := rfl
@[simp] theorem t_tup : truthD (.tup xs) = some (!xs.isEmpty) := rfl
@[simp] theorem i_lst : ixD (.lst o xs) (.int i) = atI xs i := rfl
@[simp] theorem i_tup : ixD (.tup xs) (.int i) = atI xs i := rfl
@[simp] theorem i_scr : ixD (.scr xs) (.int i) = atI xs i := rfl
@[simp] theorem i_str : ixD (.str x) (.int i) = if x.length ≤ sizeLine then (atI x.cps.toList i).map fun c => .str ⟨#[c]⟩ else none := rfl
@[simp] theorem i_dkS : ixD (.dk o ks xs) (.str x) = getK (.inr x) ks xs := rfl
@[simp] theorem i_dkI : ixD (.dk o ks xs) (.int i) = getK (.inl i) ks xs := rfl
@[simp] theorem g_cons {c : Key} : getK k (c :: ks) (d :: xs) = if c = k then some d else getK k ks xs := by rw [getK]
@[simp] theorem s_lst {l h : Option Int} : slD (.lst o xs) l h = some (.lst true (cutL xs l h)) := rfl
@[simp] theorem s_scr {l h : Option Int} : slD (.scr xs) l h = some (.lst true (cutL xs l h)) := rfl
@[simp] theorem s_tup {l h : Option Int} : slD (.tup xs) l h = some (.tup (cutL xs l h)) := rfl
@[simp] theorem s_str {l h : Option Int} : slD (.str x) l h = if x.length ≤ sizeLine then some (.str ⟨(cutL x.cps.toList l h).toArray⟩) else none := rfl
@[simp] theorem f_lenL : biD .len [.lst o xs] = some (.int xs.length) := rfl
@[simp] theorem f_lenT : biD .len [.tup xs] = some (.int xs.length) := rfl
@[simp] theorem f_lenR : biD .len [.scr xs] = some (.int xs.length) := rfl
@[simp] theorem f_lenS : biD .len [.str x] = (if x.length ≤ sizeLine then some x.length else none).map fun n => .int (n : Nat) := rfl
@[simp] theorem f_intB : biD .int [.bl a] = some (.int (if a then 1 else 0)) := rfl
@[simp] theorem f_absI : biD .abs [.int i] = some (.int (if i < 0 then -i else i)) := rfl
@[simp] theorem f_min : biD .min2 [.int i, .int j] = some (.int (if j < i then j else i)) := rfl
@[simp] theorem f_max : biD .max2 [.int i, .int j] = some (.int (if j > i then j else i)) := rfl
@[simp] theorem f_listL : biD .list [.lst o xs] = some (.lst true xs) := rfl
@[simp] theorem f_listT : biD .list [.tup xs] = some (.lst true xs) := rfl
@[simp] theorem f_listR : biD .list [.scr xs] = some (.lst true xs) := rfl
@[simp] theorem f_tupL : biD .tuple [.lst o xs] = some (.tup xs) := rfl
@[simp] theorem f_tupT : biD .tuple [.tup xs] = some (.tup xs) := rfl
@[simp] theorem f_divmod : biD .divmod [.int i, .int j] = if 0 < j ∧ j < 1073741824 then some (.tup [.int (i / j), .int (i % j)]) else none := rfl
@[simp] theorem f_all : biD .all [.lst o xs] = (bls? xs).map fun bs => .bl (bs.all id) := rfl
@[simp] theorem l_lst : iterD (.lst o xs) = some xs := rfl
@[simp] theorem l_tup : iterD (.tup xs) = some xs := rfl
@[simp] theorem l_scr : iterD (.scr xs) = some xs := rfl
@[simp] theorem l_zip : zipD (.lst o xs) (.lst o' ys) = some (zipL xs ys) := rfl
@[simp] theorem l_zipT : zipD (.tup xs) (.tup ys) = some (zipL xs ys) := rfl
@[simp] theorem l_lstD : listD (.lst o xs) = some xs := rfl
@[simp] theorem f_max1 : biD .max1 [.lst o xs] = (ints? xs).bind fun ns => ns.max?.map .int := rfl
@[simp] theorem f_min1 : biD .min1 [.lst o xs] = (ints? xs).bind fun ns => ns.min?.map .int := rfl
@[simp] theorem f_srt : srtD (.lst o xs) = (ints? xs).bind fun ks => if ks.length ≤ 4000 ∧ (srt ks).length ≤ 4000 then some (.lst true ((srt ks).map .int)) else none := rfl
@[simp] theorem l_seqL : seqD (.lst o xs) = some xs := rfl
@[simp] theorem l_seqT : seqD (.tup xs) = some xs := rfl
@[simp] theorem y_int : tyD (.int i) = some .int := rfl
@[simp] theorem y_str : tyD (.str x) = some .str := rfl
@[simp] theorem y_bl : tyD (.bl a) = some .bool := rfl
@[simp] theorem y_non : tyD .non = some .none := rfl
@[simp] theorem y_tup : tyD (.tup xs) = some .tuple := rfl
@[simp] theorem y_lst : tyD (.lst o xs) = some .list := rfl
@[simp] theorem w_int : flat (.int i) = true := rfl
@[simp] theorem w_str : flat (.str x) = true := rfl
@[simp] theorem w_bl : flat (.bl a) = true := rfl
@[simp] theorem w_non : flat .non = true := rfl
@[simp] theorem g_nil : getP d [] = some d := by cases d <;> rfl
@[simp] theorem g_lst {js : List D} : getP (.lst true xs) (.int i :: js) = (atI xs i).bind fun c => getP c js := by rw [getP]
@[simp] theorem g_dkS {js : List D} : getP (.dk true ks xs) (.str x :: js) = (getK (.inr x) ks xs).bind fun c => getP c js := by rw [getP]; rfl
@[simp] theorem q_nil : putP d [] e = some e := by cases d <;> rfl
@[simp] theorem q_lst {js : List D} : putP (.lst true xs) (.int i :: js) e = (ixN xs.length i).bind fun j => (xs[j]?).bind fun c => (putP c js e).map fun c' => .lst true (xs.set j c') := by rw [putP]
@[simp] theorem q_dkS {js : List D} : putP (.dk true ks xs) (.str x :: js) e = (ks.findIdx? (· = .inr x)).bind fun j => (xs[j]?).bind fun d => (putP d js e).map fun d' => .dk true ks (xs.set j d') := by rw [putP]; rfl
@[simp] theorem h_lst : setD (.lst true xs) (.int i) e = (ixN xs.length i).map fun j => .lst true (xs.set j e) := rfl
@[simp] theorem m_app : muD .append (.lst true xs) [d] = if xs.length < sizeLine then some (.non, .lst true (xs ++ [d])) else none := rfl
@[simp] theorem m_rev : muD .reverse (.lst true xs) [] = some (.non, .lst true xs.reverse) := rfl
@[simp] theorem m_ext : muD .extend (.lst true xs) [.lst o ys] = if xs.length + ys.length ≤ sizeLine then some (.non, .lst true (xs ++ ys)) else none := rfl
def R.put4 (r : Option D) (i : Nat) (ρ : Env) : R Unit := match r with
  | some d => .ok () (ρ.set i (some d))
  | none => .bad
def R.put3 (r : Option D) (d : D) (js : List D) (i : Nat) (ρ : Env) : R Unit := match r with
  | some c => R.put4 (putP d js c) i ρ
  | none => .bad
def R.put2 (r : Option D) (js : List D) (k v : D) (i : Nat) (ρ : Env) : R Unit := match r with
  | some d => R.put3 ((getP d js).bind fun c => setD c k v) d js i ρ
  | none => .bad
@[simp] theorem put_1 {js : List D} {k v : D} {i : Nat} : R.put js k v i ρ = R.put2 (getS ρ i) js k v i ρ := by
  unfold R.put R.put2
  cases getS ρ i with
  | none => rfl
  | some d =>
    show (match (getP d js).bind fun c => setD c k v with | none => R.bad | some c' => _) = R.put3 ((getP d js).bind fun c => setD c k v) d js i ρ
    cases (getP d js).bind fun c => setD c k v with
    | none => rfl
    | some c =>
      show (match putP d js c with | none => R.bad | some d' => R.ok () (ρ.set i (some d'))) = R.put4 (putP d js c) i ρ
      cases putP d js c <;> rfl
@[simp] theorem put_2 {js : List D} {k v : D} {i : Nat} : R.put2 (some d) js k v i ρ = R.put3 ((getP d js).bind fun c => setD c k v) d js i ρ := rfl
@[simp] theorem put_3 {js : List D} {c : D} {i : Nat} : R.put3 (some c) d js i ρ = R.put4 (putP d js c) i ρ := rfl
@[simp] theorem put_4 {i : Nat} : R.put4 (some d) i ρ = .ok () (ρ.set i (some d)) := rfl
def R.mut4 (r : Option D) (v : D) (i : Nat) (ρ : Env) : R D := match r with
  | some d => .ok v (ρ.set i (some d))
  | none => .bad
def R.mut3 (r : Option (D × D)) (d : D) (js : List D) (i : Nat) (ρ : Env) : R D := match r with
  | some (v, c) => R.mut4 (putP d js c) v i ρ
  | none => .bad
def R.mut2 (m : MU) (r : Option D) (js ys : List D) (i : Nat) (ρ : Env) : R D := match r with
  | some d => R.mut3 ((getP d js).bind fun c => muD m c ys) d js i ρ
  | none => .bad
@[simp] theorem mut_1 {m : MU} {js ys : List D} {i : Nat} : R.mut m js ys i ρ = R.mut2 m (getS ρ i) js ys i ρ := by
  unfold R.mut R.mut2
  cases getS ρ i with
  | none => rfl
  | some d =>
    show (match (getP d js).bind fun c => muD m c ys with | none => R.bad | some (r, c') => _) = R.mut3 ((getP d js).bind fun c => muD m c ys) d js i ρ
    cases (getP d js).bind fun c => muD m c ys with
    | none => rfl
    | some p =>
      obtain ⟨v, c⟩ := p
      show (match putP d js c with | none => R.bad | some d' => R.ok v (ρ.set i (some d'))) = R.mut4 (putP d js c) v i ρ
      cases putP d js c <;> rfl
@[simp] theorem mut_2 {m : MU} {js ys : List D} {i : Nat} : R.mut2 m (some d) js ys i ρ = R.mut3 ((getP d js).bind fun c => muD m c ys) d js i ρ := rfl
@[simp] theorem mut_3 {js : List D} {v c : D} {i : Nat} : R.mut3 (some (v, c)) d js i ρ = R.mut4 (putP d js c) v i ρ := rfl
@[simp] theorem mut_4 {v : D} {i : Nat} : R.mut4 (some d) v i ρ = .ok v (ρ.set i (some d)) := rfl
def R.ret2 (r : Option Env) (d : D) : R D := match r with
  | some ρ => .ok d ρ
  | none => .bad
@[simp] theorem ret_1 {os : List D} {is : List Nat} : R.ret (some (d, os)) ρ is = R.ret2 (putIos ρ is os) d := by
  unfold R.ret R.ret2
  cases h : putIos ρ is os <;> simp [h] <;> rfl
@[simp] theorem ret_2 : R.ret2 (some ρ) d = .ok d ρ := rfl
@[simp] theorem io_nil : putIos ρ [] [] = some ρ := by rw [putIos]
@[simp] theorem io_cons {i : Nat} {is : List Nat} {ds : List D} : putIos ρ (i :: is) (d :: ds) = if nfm d = true ∧ i < ρ.length then putIos (ρ.set i (some d)) is ds else none := by rw [putIos]
@[simp] theorem r_rt {f : Fn} : runF f (.rt d ρ) = (getIos ρ f.io).map fun ds => (d, ds) := rfl
@[simp] theorem r_nx {f : Fn} : runF f (.nx ρ) = (getIos ρ f.io).map fun ds => (.non, ds) := rfl
@[simp] theorem io_get0 : getIos ρ [] = some [] := by rw [getIos]
@[simp] theorem io_get {i : Nat} {is : List Nat} : getIos ρ (i :: is) = (getS ρ i).bind fun d => (getIos ρ is).map fun ds => d :: ds := by rw [getIos]
theorem atI_nn {α : Type} {zs : List α} (h : 0 ≤ i) : atI zs i = zs[i.toNat]? := by
  unfold L2.atI ixN
  by_cases hl : i < zs.length
  · rw [if_pos h, if_pos hl]
    by_cases h2 : i.toNat < zs.length
    · simp [h2]
    · omega
  · have : zs.length ≤ i.toNat := by omega
    rw [if_pos h, if_neg (by omega), List.getElem?_eq_none this]
    rfl
theorem atI_mem {α : Type} {zs : List α} (h : 0 ≤ i) (hl : i < zs.length) : ∃ v, atI zs i = some v ∧ v ∈ zs := by
  have h2 : i.toNat < zs.length := by omega
  exact ⟨zs[i.toNat], by rw [atI_nn h, List.getElem?_eq_getElem h2], List.getElem_mem _⟩
theorem ixN_nn {n : Nat} (h : 0 ≤ i) (hl : i < n) : ixN n i = some i.toNat := by
  unfold ixN
  rw [if_pos h, if_pos (by omega)]
@[simp] theorem ios_nil : Es.nil.ios = [] := by rw [Es.ios]
@[simp] theorem ios_cons {q : Bool} {a : E} {es : Es} : (Es.cons q a es).ios = es.ios := by rw [Es.ios]
@[simp] theorem ios_io {i : Nat} {es : Es} : (Es.io i es).ios = i :: es.ios := by rw [Es.ios]
@[simp] theorem slot_sl {i : Nat} : (Pth.sl i).slot = i := by rw [Pth.slot]
@[simp] theorem slot_ix {p : Pth} {a : E} : (Pth.ix p a).slot = p.slot := by rw [Pth.slot]
end
end Mn

/-! Mn Zf: more rules for loops, texts. -/
namespace Mn
open PySem L2
/-- a comprehension whose values have one form -/
theorem lcL_vals {α : Type} {own : List Nat} {q : Bool} {body : D → Env → R (Option D)} {xs : List D} (f : α → D) (Z : α → Prop) (hn : ∀ a, q = true ∨ nfm (f a) = true) (I : Nat → Env → Prop)
    (step : ∀ (i : Nat) (x : D) (ρ : Env), xs[i]? = some x → I i ρ → ∃ ρ', I (i + 1) ρ' ∧ ((∃ a, body x (wipeS ρ own) = .ok (some (f a)) ρ' ∧ Z a) ∨ body x (wipeS ρ own) = .ok none ρ')) {ρ : Env} (h0 : I 0 ρ) :
    ∃ (zs : List α) (ρ' : Env), lcL own q body xs ρ = .ok (zs.map f) ρ' ∧ I xs.length ρ' ∧ zs.length ≤ xs.length ∧ ∀ z, z ∈ zs → Z z := by
  obtain ⟨os, ρ', h1, h2, h3, h4⟩ := lcL_run (own := own) (q := q) (body := body) (xs := xs) I (fun _ _ o => o = none ∨ ∃ a, o = some (f a) ∧ Z a) (fun i x ρ hx hi => by
    obtain ⟨ρ', g1, ⟨a, g2, g3⟩ | g2⟩ := step i x ρ hx hi
    · exact ⟨_, ρ', g2, g1, .inr ⟨a, rfl, g3⟩, fun d e => by cases e; rcases hn a with z | z <;> simp [z]⟩
    · exact ⟨_, ρ', g2, g1, .inl rfl, fun d e => nomatch e⟩) h0
  have key : ∀ (os : List (Option D)), (∀ o, o ∈ os → o = none ∨ ∃ a, o = some (f a) ∧ Z a) → ∃ zs : List α, os.filterMap id = zs.map f ∧ zs.length ≤ os.length ∧ ∀ z, z ∈ zs → Z z := by
    intro os
    induction os with
    | nil => intro _; exact ⟨[], rfl, Nat.le_refl _, fun _ z => nomatch z⟩
    | cons o os ih =>
      intro h
      obtain ⟨zs, g1, g2, g3⟩ := ih fun o ho => h o (List.mem_cons_of_mem _ ho)
      rcases h o List.mem_cons_self with rfl | ⟨a, rfl, ha⟩
      · exact ⟨zs, by simpa using g1, by simp; omega, g3⟩
      · exact ⟨a :: zs, by simp [g1], by simp; omega, fun z hz => (List.mem_cons.mp hz).elim (fun e => e ▸ ha) (g3 z)⟩
  obtain ⟨zs, g1, g2, g3⟩ := key os fun o ho => by
    obtain ⟨i, hi, e⟩ := List.mem_iff_getElem.mp ho
    have hx : xs[i]? = some xs[i] := List.getElem?_eq_getElem (by omega)
    exact h4 i _ o hx (by rw [List.getElem?_eq_getElem hi, e])
  exact ⟨zs, ρ', by rw [h1, g1], h2, by omega, g3⟩
/-- .. and each turn gives one -/
theorem lcL_each {α : Type} {own : List Nat} {q : Bool} {body : D → Env → R (Option D)} {xs : List D} (f : α → D) (Z : α → Prop) (hn : ∀ a, q = true ∨ nfm (f a) = true) (I : Nat → Env → Prop)
    (step : ∀ (i : Nat) (x : D) (ρ : Env), xs[i]? = some x → I i ρ → ∃ ρ', I (i + 1) ρ' ∧ ∃ a, body x (wipeS ρ own) = .ok (some (f a)) ρ' ∧ Z a) {ρ : Env} (h0 : I 0 ρ) :
    ∃ (zs : List α) (ρ' : Env), lcL own q body xs ρ = .ok (zs.map f) ρ' ∧ I xs.length ρ' ∧ zs.length = xs.length ∧ ∀ z, z ∈ zs → Z z := by
  obtain ⟨os, ρ', h1, h2, h3, h4⟩ := lcL_run (own := own) (q := q) (body := body) (xs := xs) I (fun _ _ o => ∃ a, o = some (f a) ∧ Z a) (fun i x ρ hx hi => by
    obtain ⟨ρ', g1, a, g2, g3⟩ := step i x ρ hx hi
    exact ⟨_, ρ', g2, g1, ⟨a, rfl, g3⟩, fun d e => by cases e; rcases hn a with z | z <;> simp [z]⟩) h0
  have key : ∀ (os : List (Option D)), (∀ o, o ∈ os → ∃ a, o = some (f a) ∧ Z a) → ∃ zs : List α, os.filterMap id = zs.map f ∧ zs.length = os.length ∧ ∀ z, z ∈ zs → Z z := by
    intro os
    induction os with
    | nil => intro _; exact ⟨[], rfl, rfl, fun _ z => nomatch z⟩
    | cons o os ih =>
      intro h
      obtain ⟨zs, g1, g2, g3⟩ := ih fun o ho => h o (List.mem_cons_of_mem _ ho)
      obtain ⟨a, rfl, ha⟩ := h o List.mem_cons_self
      exact ⟨a :: zs, by simp [g1], by simp [g2], fun z hz => (List.mem_cons.mp hz).elim (fun e => e ▸ ha) (g3 z)⟩
  obtain ⟨zs, g1, g2, g3⟩ := key os fun o ho => by
    obtain ⟨i, hi, e⟩ := List.mem_iff_getElem.mp ho
    have hx : xs[i]? = some xs[i] := List.getElem?_eq_getElem (by omega)
    exact h4 i _ o hx (by rw [List.getElem?_eq_getElem hi, e])
  exact ⟨zs, ρ', by rw [h1, g1], h2, by omega, g3⟩
/-- a comprehension that computes -/
theorem lcL_fun {own : List Nat} {q : Bool} {body : D → Env → R (Option D)} {xs : List D} (g : D → Option D) (hn : ∀ x d, x ∈ xs → g x = some d → q = true ∨ nfm d = true) (I : Env → Prop)
    (step : ∀ (x : D) (ρ : Env), x ∈ xs → I ρ → ∃ ρ', I ρ' ∧ body x (wipeS ρ own) = .ok (g x) ρ') : ∀ {ρ : Env}, I ρ → ∃ (ρ' : Env), lcL own q body xs ρ = .ok (xs.filterMap g) ρ' ∧ I ρ' := by
  induction xs with
  | nil => intro ρ h0; exact ⟨ρ, by rw [lcL]; rfl, h0⟩
  | cons x xs ih =>
    intro ρ h0
    obtain ⟨ρ1, h1, h2⟩ := step x ρ List.mem_cons_self h0
    obtain ⟨ρ2, h3, h4⟩ := ih (fun x d hx => hn x d (List.mem_cons_of_mem _ hx)) (fun x ρ hx => step x ρ (List.mem_cons_of_mem _ hx)) h1
    refine ⟨ρ2, ?_, h4⟩
    rw [lcL, h2, bind_go, h3, bind_go]
    cases e : g x with
    | none => simp [e]
    | some d => rcases hn x d List.mem_cons_self e with z | z <;> simp [e, z]
/-! texts -/
def NmOk (n : Nat) (s : Str) : Prop := s.length ≤ n ∧ ∀ c, c ∈ s.cps.toList → c < 1114112
theorem len_str (s : Str) : s.length = s.cps.toList.length := by simp [Str.length]
theorem cps_app (x y : Str) : (x ++ y).cps.toList = x.cps.toList ++ y.cps.toList := by
  show (x.cps ++ y.cps).toList = _
  simp
theorem NmOk.app {m n : Nat} {x y : Str} (h1 : NmOk m x) (h2 : NmOk n y) : NmOk (m + n) (x ++ y) := by
  refine ⟨?_, fun c hc => ?_⟩
  · have a := h1.1
    have b := h2.1
    rw [len_str] at a b ⊢
    rw [cps_app, List.length_append]
    omega
  · rw [cps_app] at hc
    exact (List.mem_append.mp hc).elim (h1.2 c) (h2.2 c)
theorem NmOk.up {m n : Nat} {x : Str} (h : NmOk m x) (hm : m ≤ n) : NmOk n x := ⟨Nat.le_trans h.1 hm, h.2⟩
theorem NmOk.cut {m : Nat} {x : Str} {l h : Option Int} (hx : NmOk m x) : NmOk m ⟨(cutL x.cps.toList l h).toArray⟩ := by
  have sub : ∀ c, c ∈ cutL x.cps.toList l h → c ∈ x.cps.toList := fun c hc => List.mem_of_mem_drop (List.mem_of_mem_take hc)
  refine ⟨?_, fun c hc => hx.2 c (sub c (by simpa using hc))⟩
  have a := hx.1
  rw [len_str] at a ⊢
  simp only [cutL, List.length_take, List.length_drop] at a ⊢
  omega
theorem NmOk.one {c : Nat} (h : c < 1114112) : NmOk 1 ⟨#[c]⟩ := ⟨Nat.le_refl _, fun d hd => by simp at hd; omega⟩
theorem NmOk.join : ∀ {xs : List Str}, (∀ x, x ∈ xs → NmOk 1 x) → NmOk xs.length (Str.join "" xs)
  | [], _ => ⟨Nat.le_refl _, fun c hc => by cases hc⟩
  | [x], h => h x List.mem_cons_self
  | x :: y :: r, h => by
    have e0 : NmOk 0 ("" : Str) := ⟨Nat.le_refl _, fun c hc => by cases hc⟩
    have := ((h x List.mem_cons_self).app e0).app (NmOk.join (xs := y :: r) fun z hz => h z (List.mem_cons_of_mem _ hz))
    exact this.up (by simp; omega)
theorem app_len (x y : Str) : (x ++ y).length = x.length + y.length := by
  rw [len_str, len_str, len_str, cps_app, List.length_append]
theorem strs_map : ∀ {zs : List Str}, strs? (zs.map .str) = some zs
  | [] => rfl
  | z :: zs => by
    show (strs? (zs.map .str)).map (z :: ·) = _
    rw [strs_map]
    rfl
theorem sum_le {f : Str → Nat} {n : Nat} : ∀ {xs : List Str}, (∀ x, x ∈ xs → f x ≤ n) → (xs.map f).sum ≤ n * xs.length
  | [], _ => by simp
  | x :: xs, h => by
    have h1 := h x List.mem_cons_self
    have h2 := sum_le (f := f) (n := n) (xs := xs) fun y hy => h y (List.mem_cons_of_mem _ hy)
    simp only [List.map_cons, List.sum_cons, List.length_cons, Nat.mul_add, Nat.mul_one]
    omega
theorem atI_last {α : Type} {zs : List α} (h : zs ≠ []) : ∃ v, atI zs (-1) = some v ∧ v ∈ zs := by
  have hl := List.length_pos_iff.mpr h
  have e : ixN zs.length (-1) = some (zs.length - 1) := by
    unfold ixN
    rw [if_neg (by omega), if_pos (by omega)]
    congr 1
    omega
  have h2 : zs.length - 1 < zs.length := by omega
  exact ⟨zs[zs.length - 1], by unfold L2.atI; rw [e]; exact List.getElem?_eq_getElem h2, List.getElem_mem _⟩
theorem rngL_get {n i : Nat} {x : D} (h : (rngL 0 n)[i]? = some x) : x = .int (i : Nat) ∧ i < n := by
  unfold rngL at h
  rw [List.getElem?_map] at h
  obtain ⟨j, h1, rfl⟩ := Option.map_eq_some_iff.mp h
  have hl : i < n := by have := (List.getElem?_eq_some_iff.mp h1).1; simpa using this
  rw [List.getElem?_range hl] at h1
  cases h1
  exact ⟨by simp, hl⟩
theorem rngL_len {lo : Int} {n : Nat} : (rngL lo n).length = n := by simp [rngL]
theorem rngL_nfm {lo : Int} {n : Nat} : nfms (rngL lo n) = true := flat_nfms fun x hx => by
  unfold rngL at hx
  obtain ⟨i, _, rfl⟩ := List.mem_map.mp hx
  rfl
theorem rngL_flat {lo : Int} {n : Nat} : ∀ x, x ∈ rngL lo n → flat x = true := fun x hx => by
  unfold rngL at hx
  obtain ⟨i, _, rfl⟩ := List.mem_map.mp hx
  rfl
@[simp] theorem j_join {a : Str} {o : Bool} {xs : List D} : mtD .join (.str a) [.lst o xs] = (strs? xs).bind fun ys => if (ys.map (·.length)).sum + ys.length * a.length ≤ 16777216 then some (.str (Str.join a ys)) else none := rfl
theorem for_go {C : O → Prop} {f : D → Env → O} {xs : List D} {ρ0 : Env} {G : Env → O} (I : Nat → Env → Prop) (h0 : I 0 ρ0) (step : ∀ (i : Nat) (x : D) (ρ : Env), xs[i]? = some x → I i ρ → ∃ ρ', (f x ρ = .nx ρ' ∨ f x ρ = .ct ρ') ∧ I (i + 1) ρ') (k : ∀ ρ', I xs.length ρ' → C (G ρ')) : C (@O.sj (forL f xs ρ0) ⟨G⟩) := by
  obtain ⟨ρ', e, h⟩ := forL_run I step h0
  rw [e]
  exact k ρ' h
theorem for_ret {C : O → Prop} {f : D → Env → O} {xs : List D} {ρ0 : Env} {G : Env → O} (I : Nat → Env → Prop) (Z : D → Env → Prop) (h0 : I 0 ρ0)
    (step : ∀ (i : Nat) (x : D) (ρ : Env), xs[i]? = some x → I i ρ → (∃ ρ', (f x ρ = .nx ρ' ∨ f x ρ = .ct ρ') ∧ I (i + 1) ρ') ∨ ∃ d ρ', f x ρ = .rt d ρ' ∧ Z d ρ') (k : ∀ ρ', I xs.length ρ' → C (G ρ')) (k2 : ∀ d ρ', Z d ρ' → C (.rt d ρ')) : C (@O.sj (forL f xs ρ0) ⟨G⟩) := by
  rcases forL_ret I Z step h0 with ⟨ρ', e, h⟩ | ⟨d, ρ', e, h⟩
  · rw [e]; exact k ρ' h
  · rw [e]; exact k2 d ρ' h
theorem frzs_mapf {α : Type} {f : α → D} (h : ∀ a, frz (f a) = f a) (xs : List α) : frzs (xs.map f) = xs.map f := by
  rw [frzs_map, List.map_map]
  exact List.map_congr_left fun a _ => h a
theorem nfms_mapf {α : Type} {f : α → D} (h : ∀ a, nfm (f a) = true) (xs : List α) : nfms (xs.map f) = true := by
  rw [nfms_all, List.all_eq_true]
  intro x hx
  obtain ⟨a, _, rfl⟩ := List.mem_map.mp hx
  exact h a
theorem plains_mapf {α : Type} {n : Nat} {f : α → D} (h : ∀ a, plain n (f a) = true) (xs : List α) : plains n (xs.map f) = true := by
  rw [plains_all, List.all_eq_true]
  intro x hx
  obtain ⟨a, _, rfl⟩ := List.mem_map.mp hx
  exact h a
theorem sorted_strs {o : Bool} {xs : List Str} (h : xs.length < 64) : ∃ ys : List Str, biD .sorted [.lst o (xs.map .str)] = some (.lst true (ys.map .str)) ∧ ys.Perm xs := by
  cases xs with
  | nil => exact ⟨[], by simp [biD, ints?, sortI], .refl _⟩
  | cons x xs =>
    refine ⟨sortS (x :: xs), ?_, List.mergeSort_perm _ _⟩
    have e1 : ints? ((x :: xs).map D.str) = none := rfl
    simp only [biD, e1, strs_map]
    exact if_pos h
@[simp] theorem at_0 {α : Type} {a : α} {xs : List α} : atI (a :: xs) 0 = some a := by rw [atI_nn (by omega)]; rfl
@[simp] theorem at_1 {α : Type} {a b : α} {xs : List α} : atI (a :: b :: xs) 1 = some b := by rw [atI_nn (by omega)]; rfl
@[simp] theorem at_2 {α : Type} {a b c : α} {xs : List α} : atI (a :: b :: c :: xs) 2 = some c := by rw [atI_nn (by omega)]; rfl
@[simp] theorem at_3 {α : Type} {a b c d : α} {xs : List α} : atI (a :: b :: c :: d :: xs) 3 = some d := by rw [atI_nn (by omega)]; rfl
@[simp] theorem es_strs {ns : List Str} : eqDs (ns.map .str) (ns.map .str) = true := eqDs_self (n := 60) plains_strs
@[simp] theorem es_ints {ns : List Int} : eqDs (ns.map .int) (ns.map .int) = true := eqDs_self (n := 60) plains_ints
/-- a comprehension that computes, over values of one form -/
theorem lcL_map {α : Type} {own : List Nat} {q : Bool} {body : D → Env → R (Option D)} {f : α → D} {zs : List α} (g : α → Option D) (hn : ∀ x d, x ∈ zs → g x = some d → q = true ∨ nfm d = true) (I : Env → Prop)
    (step : ∀ (x : α) (ρ : Env), x ∈ zs → I ρ → ∃ ρ', I ρ' ∧ body (f x) (wipeS ρ own) = .ok (g x) ρ') : ∀ {ρ : Env}, I ρ → ∃ (ρ' : Env), lcL own q body (zs.map f) ρ = .ok (zs.filterMap g) ρ' ∧ I ρ' := by
  induction zs with
  | nil => intro ρ h0; exact ⟨ρ, by rw [List.map_nil, lcL]; rfl, h0⟩
  | cons x xs ih =>
    intro ρ h0
    obtain ⟨ρ1, h1, h2⟩ := step x ρ List.mem_cons_self h0
    obtain ⟨ρ2, h3, h4⟩ := ih (fun x d hx => hn x d (List.mem_cons_of_mem _ hx)) (fun x ρ hx => step x ρ (List.mem_cons_of_mem _ hx)) h1
    refine ⟨ρ2, ?_, h4⟩
    rw [List.map_cons, lcL, h2, bind_go, h3, bind_go]
    cases e : g x with
    | none => simp [e]
    | some d => rcases hn x d List.mem_cons_self e with z | z <;> simp [e, z]
theorem any_ty {t : Ty} {cs : List Ty} : cs.any (isiT t) = cs.any (isiT t) := rfl
end Mn

/-! Mn Zg: repr of small data. -/
namespace Mn
open PySem L2
structure Sh (n : Nat) (d : D) : Prop where
  a : (toPy d).showable = true
  b : (toPy d).leavesShort 13 = true
  c : (toPy d).weight ≤ n
theorem Sh.up {m n : Nat} {d : D} (h : Sh m d) (k : m ≤ n) : Sh n d := ⟨h.a, h.b, Nat.le_trans h.c k⟩
theorem log2_lt {i : Nat} (h : i < 10 ^ 12) : i.log2 < 40 := by
  by_cases h0 : i = 0
  · subst h0; decide
  · exact (Nat.log2_lt h0).mpr (by omega)
theorem Sh.int {i : Int} (h : i.natAbs < 10 ^ 12) : Sh 40 (.int i) := by
  have hl := log2_lt h
  refine ⟨?_, ?_, ?_⟩
  · simp only [toPy, PyData.showable]
    exact decide_eq_true (by omega)
  · simp only [toPy, PyData.leavesShort]
    exact decide_eq_true (PyData.shown_int_le h)
  · simp only [toPy, PyData.weight]
    split
    · omega
    · omega
theorem Sh.str {n : Nat} {s : Str} (h : NmOk n s) : Sh n (.str s) := by
  refine ⟨?_, ?_, ?_⟩
  · simp only [toPy, PyData.showable]
  · simp only [toPy, PyData.leavesShort]
    exact List.all_eq_true.mpr fun c hc => decide_eq_true (by have := h.2 c hc; omega)
  · simp only [toPy, PyData.weight]
    exact h.1
theorem Sh.non : Sh 0 .non := by
  refine ⟨?_, ?_, ?_⟩
  · simp only [toPy, PyData.showable]
  · simp only [toPy, PyData.leavesShort]
  · simp only [toPy, PyData.weight, Nat.le_refl]
theorem Sh.all {n : Nat} : ∀ {xs : List D}, (∀ x, x ∈ xs → Sh n x) → PyData.showableAll (toPys xs) = true ∧ PyData.leavesShortAll 13 (toPys xs) = true ∧ PyData.weightAll (toPys xs) ≤ (n + 1) * xs.length
  | [], _ => by simp [toPys, PyData.showableAll, PyData.leavesShortAll, PyData.weightAll]
  | x :: xs, h => by
    obtain ⟨h1, h2, h3⟩ := Sh.all (xs := xs) fun y hy => h y (List.mem_cons_of_mem _ hy)
    obtain ⟨g1, g2, g3⟩ := h x List.mem_cons_self
    refine ⟨by simp [toPys, PyData.showableAll, g1, h1], by simp [toPys, PyData.leavesShortAll, g2, h2], ?_⟩
    simp only [toPys, PyData.weightAll, List.length_cons, Nat.mul_add, Nat.mul_one]
    omega
theorem Sh.tup {n : Nat} {xs : List D} (h : ∀ x, x ∈ xs → Sh n x) : Sh ((n + 1) * xs.length) (.tup xs) := by
  obtain ⟨h1, h2, h3⟩ := Sh.all h
  exact ⟨by simpa only [toPy, PyData.showable] using h1, by simpa only [toPy, PyData.leavesShort] using h2, by simpa only [toPy, PyData.weight] using h3⟩
theorem Sh.lst {n : Nat} {o : Bool} {xs : List D} (h : ∀ x, x ∈ xs → Sh n x) : Sh ((n + 1) * xs.length) (.lst o xs) := by
  obtain ⟨h1, h2, h3⟩ := Sh.all h
  exact ⟨by simpa only [toPy, PyData.showable] using h1, by simpa only [toPy, PyData.leavesShort] using h2, by simpa only [toPy, PyData.weight] using h3⟩
theorem Sh.repr {n : Nat} {d : D} (h : Sh n d) (h1 : dispD d = true) (h2 : plain 60 d = true) (hn : 15 * n + 13 ≤ 16777216) : biD .repr [d] = some (.str (toPy d).shown) := by
  have l : (toPy d).shown.length ≤ sizeLine := by
    have := PyData.shown_le 13 (by decide) (toPy d) h.b
    have e : sizeLine = 16777216 := by decide
    have := h.c
    rw [e]
    omega
  have c : (dispD d && (plain 60 d && (toPy d).showable && decide ((toPy d).shown.length ≤ sizeLine))) = true := by
    rw [h1, h2, h.a, decide_eq_true l]
    rfl
  exact if_pos c
end Mn

/-! Mn Zh: things of any shape. -/
namespace Mn
open PySem L2
/-! things -/
mutual
def okD : D → Bool
  | .non => true | .bl _ => true | .int _ => true
  | .str s => PyData.strOk s
  | .tup xs => okDs xs
  | .lst _ xs => okDs xs
  | _ => false
def okDs : List D → Bool
  | [] => true
  | x :: xs => okD x && okDs xs
end
mutual
def wt : D → Nat
  | .int i => 40 + i.natAbs
  | .str s => s.length
  | .tup xs => wts xs
  | .lst _ xs => wts xs
  | _ => 0
def wts : List D → Nat
  | [] => 0
  | x :: xs => wt x + 1 + wts xs
end
mutual
def dp : D → Nat
  | .tup xs => dps xs + 1
  | .lst _ xs => dps xs + 1
  | _ => 0
def dps : List D → Nat
  | [] => 0
  | x :: xs => max (dp x) (dps xs)
end
mutual
theorem frz_same : ∀ d : D, okD (frz d) = okD d ∧ wt (frz d) = wt d ∧ dp (frz d) = dp d ∧ nod (frz d) = true
  | .non => ⟨rfl, rfl, rfl, rfl⟩
  | .bl _ => ⟨rfl, rfl, rfl, rfl⟩
  | .int _ => ⟨rfl, rfl, rfl, rfl⟩
  | .str _ => ⟨rfl, rfl, rfl, rfl⟩
  | .tup xs => by
    obtain ⟨h1, h2, h3, h4⟩ := frzs_same xs
    simp [frz, okD, wt, dp, nod, h1, h2, h3, h4]
  | .lst o xs => by
    obtain ⟨h1, h2, h3, h4⟩ := frzs_same xs
    simp [frz, okD, wt, dp, nod, h1, h2, h3, h4]
  | .scr xs => by
    obtain ⟨h1, h2, h3, h4⟩ := frzs_same xs
    simp [frz, okD, wt, dp, nod, h4]
  | .dk o ks xs => by
    obtain ⟨h1, h2, h3, h4⟩ := frzs_same xs
    simp [frz, okD, wt, dp, nod, h4]
  | .ins o c ks xs => by
    obtain ⟨h1, h2, h3, h4⟩ := frzs_same xs
    simp [frz, okD, wt, dp, nod, h4]
theorem frzs_same : ∀ xs : List D, okDs (frzs xs) = okDs xs ∧ wts (frzs xs) = wts xs ∧ dps (frzs xs) = dps xs ∧ nods (frzs xs) = true
  | [] => ⟨rfl, rfl, rfl, rfl⟩
  | x :: xs => by
    obtain ⟨h1, h2, h3, h4⟩ := frzs_same xs
    obtain ⟨g1, g2, g3, g4⟩ := frz_same x
    simp [frzs, okDs, wts, dps, h1, h2, h3, h4, g1, g2, g3, g4]
end
mutual
theorem frz_frz : ∀ d : D, frz (frz d) = frz d
  | .non => rfl
  | .bl _ => rfl
  | .int _ => rfl
  | .str _ => rfl
  | .tup xs => by simp [frz, frzs_frzs xs]
  | .lst o xs => by simp [frz, frzs_frzs xs]
  | .scr xs => by simp [frz, frzs_frzs xs]
  | .dk o ks xs => by simp [frz, frzs_frzs xs]
  | .ins o c ks xs => by simp [frz, frzs_frzs xs]
theorem frzs_frzs : ∀ xs : List D, frzs (frzs xs) = frzs xs
  | [] => rfl
  | x :: xs => by simp [frzs, frz_frz x, frzs_frzs xs]
end
theorem ok_mem : ∀ {xs : List D} {x : D}, okDs xs = true → x ∈ xs → okD x = true
  | y :: ys, x, h, m => by
    simp [okDs] at h
    rcases List.mem_cons.mp m with rfl | m
    · exact h.1
    · exact ok_mem h.2 m
theorem ok_all : ∀ {xs : List D}, (∀ x, x ∈ xs → okD x = true) → okDs xs = true
  | [], _ => rfl
  | y :: ys, h => by simp [okDs, h y List.mem_cons_self, ok_all fun x hx => h x (List.mem_cons_of_mem _ hx)]
theorem wt_mem : ∀ {xs : List D} {x : D}, x ∈ xs → wt x + 1 ≤ wts xs
  | y :: ys, x, m => by
    simp only [wts]
    rcases List.mem_cons.mp m with rfl | m
    · omega
    · have := wt_mem m
      omega
theorem len_wts : ∀ {xs : List D}, xs.length ≤ wts xs
  | [] => Nat.le_refl _
  | y :: ys => by
    have := len_wts (xs := ys)
    simp only [wts, List.length_cons]
    omega
theorem wts_app : ∀ {xs ys : List D}, wts (xs ++ ys) = wts xs + wts ys
  | [], ys => by simp [wts]
  | x :: xs, ys => by
    simp only [List.cons_append, wts, wts_app (xs := xs)]
    omega
theorem wts_set : ∀ {xs : List D} {i : Nat} {x r : D}, xs[i]? = some x → wts (xs.set i r) + wt x = wts xs + wt r
  | [], i, x, r, h => by simp at h
  | y :: ys, 0, x, r, h => by
    simp at h
    subst h
    simp only [List.set_cons_zero, wts]
    omega
  | y :: ys, i + 1, x, r, h => by
    have := wts_set (xs := ys) (i := i) (r := r) (by simpa using h)
    simp only [List.set_cons_succ, wts]
    omega
theorem wts_take : ∀ {xs : List D} (n : Nat), wts (xs.take n) ≤ wts xs
  | [], n => by simp
  | x :: xs, 0 => by simp [wts]
  | x :: xs, n + 1 => by
    have := wts_take (xs := xs) n
    simp only [List.take_succ_cons, wts]
    omega
theorem wts_drop : ∀ {xs : List D} (n : Nat), wts (xs.drop n) ≤ wts xs
  | [], n => by simp
  | x :: xs, 0 => by simp
  | x :: xs, n + 1 => by
    have := wts_drop (xs := xs) n
    simp only [List.drop_succ_cons, wts]
    omega
theorem wts_cut {xs : List D} {l h : Option Int} : wts (cutL xs l h) ≤ wts xs := Nat.le_trans (wts_take _) (wts_drop _)
theorem wts_rev : ∀ {xs : List D}, wts xs.reverse = wts xs
  | [] => rfl
  | x :: xs => by
    rw [List.reverse_cons, wts_app, wts_rev]
    simp only [wts]
    omega
theorem wts_step : ∀ {xs : List D} {i : Nat} {x : D}, xs[i]? = some x → wts (xs.take (i + 1)) = wts (xs.take i) + (wt x + 1)
  | xs, i, x, h => by
    rw [List.take_add_one, h, wts_app]
    simp [wts]
theorem dp_mem : ∀ {xs : List D} {x : D}, x ∈ xs → dp x ≤ dps xs
  | y :: ys, x, m => by
    simp only [dps]
    rcases List.mem_cons.mp m with rfl | m
    · omega
    · have := dp_mem m
      omega
theorem dps_le {k : Nat} : ∀ {xs : List D}, (∀ x, x ∈ xs → dp x ≤ k) → dps xs ≤ k
  | [], _ => Nat.zero_le _
  | y :: ys, h => by
    simp only [dps]
    have := h y List.mem_cons_self
    have := dps_le fun x hx => h x (List.mem_cons_of_mem _ hx)
    omega
structure Th (b k : Nat) (d : D) : Prop where
  ok : okD d = true
  wt : wt d ≤ b
  dp : dp d ≤ k
theorem Th.frz {b k : Nat} {d : D} (h : Th b k d) : Th b k (frz d) := by
  obtain ⟨h1, h2, h3, _⟩ := frz_same d
  exact ⟨h1 ▸ h.ok, h2 ▸ h.wt, h3 ▸ h.dp⟩
theorem Th.up {b c k m : Nat} {d : D} (h : Th b k d) (hb : b ≤ c) (hk : k ≤ m) : Th c m d := ⟨h.ok, Nat.le_trans h.wt hb, Nat.le_trans h.dp hk⟩
theorem Th.mem {b k : Nat} {xs : List D} {x : D} (h : okDs xs = true) (hw : wts xs ≤ b) (hd : dps xs ≤ k) (m : x ∈ xs) : Th b k x := ⟨ok_mem h m, by have := wt_mem m; omega, Nat.le_trans (dp_mem m) hd⟩
theorem Th.tup {b k : Nat} {xs : List D} (h : okDs xs = true) (hw : wts xs ≤ b) (hd : dps xs ≤ k) : Th b (k + 1) (.tup xs) := ⟨h, hw, by simp only [Mn.dp]; omega⟩
theorem Th.lst {b k : Nat} {o : Bool} {xs : List D} (h : okDs xs = true) (hw : wts xs ≤ b) (hd : dps xs ≤ k) : Th b (k + 1) (.lst o xs) := ⟨h, hw, by simp only [Mn.dp]; omega⟩
mutual
theorem plain_dp : ∀ (d : D) (n : Nat), okD d = true → dp d ≤ n → plain n d = true
  | .non, n, _, _ => by unfold Mn.plain; rfl
  | .bl _, n, _, _ => by unfold Mn.plain; rfl
  | .int _, n, _, _ => by unfold Mn.plain; rfl
  | .str _, n, _, _ => by unfold Mn.plain; rfl
  | .tup xs, n, h, hn => by
    simp only [dp] at hn
    obtain ⟨m, rfl⟩ : ∃ m, n = m + 1 := ⟨n - 1, by omega⟩
    simp [Mn.plain, plains_dp xs m h (by omega)]
  | .lst o xs, n, h, hn => by
    simp only [dp] at hn
    obtain ⟨m, rfl⟩ : ∃ m, n = m + 1 := ⟨n - 1, by omega⟩
    simp [Mn.plain, plains_dp xs m h (by omega)]
theorem plains_dp : ∀ (xs : List D) (n : Nat), okDs xs = true → dps xs ≤ n → plains n xs = true
  | [], n, _, _ => by simp
  | x :: xs, n, h, hn => by
    simp only [dps] at hn
    simp [okDs] at h
    simp [plain_dp x n h.1 (by omega), plains_dp xs n h.2 (by omega)]
end
mutual
theorem sh_of : ∀ (d : D), okD d = true → wt d < 10 ^ 12 → Sh (wt d) d
  | .non, _, _ => Sh.non
  | .bl b, _, _ => ⟨by simp only [toPy, PyData.showable], by simp only [toPy, PyData.leavesShort], by simp only [toPy, PyData.weight]; omega⟩
  | .int i, _, h => (Sh.int (by simp only [wt] at h; omega)).up (by simp only [wt]; omega)
  | .str s, h, _ => Sh.str ⟨Nat.le_refl _, strOk_list.mp h⟩
  | .tup xs, h, hw => by
    obtain ⟨h1, h2, h3⟩ := shs_of xs h hw
    exact ⟨by simpa only [toPy, PyData.showable] using h1, by simpa only [toPy, PyData.leavesShort] using h2, by simp only [toPy, PyData.weight, wt]; exact h3⟩
  | .lst o xs, h, hw => by
    obtain ⟨h1, h2, h3⟩ := shs_of xs h hw
    exact ⟨by simpa only [toPy, PyData.showable] using h1, by simpa only [toPy, PyData.leavesShort] using h2, by simp only [toPy, PyData.weight, wt]; exact h3⟩
theorem shs_of : ∀ (xs : List D), okDs xs = true → wts xs < 10 ^ 12 → PyData.showableAll (toPys xs) = true ∧ PyData.leavesShortAll 13 (toPys xs) = true ∧ PyData.weightAll (toPys xs) ≤ wts xs
  | [], _, _ => by simp [toPys, PyData.showableAll, PyData.leavesShortAll, PyData.weightAll]
  | x :: xs, h, hw => by
    simp only [wts] at hw ⊢
    simp only [okDs, Bool.and_eq_true] at h
    obtain ⟨h1, h2, h3⟩ := shs_of xs h.2 (by omega)
    obtain ⟨g1, g2, g3⟩ := sh_of x h.1 (by omega)
    refine ⟨by simp [toPys, PyData.showableAll, g1, h1], by simp [toPys, PyData.leavesShortAll, g2, h2], ?_⟩
    simp only [toPys, PyData.weightAll]
    omega
end
theorem disp_ok {d : D} (h : okD d = true) : dispD d = true := by cases d <;> first | rfl | cases h
theorem Th.repr {b k : Nat} {d : D} (h : Th b k d) (hb : b ≤ 1000000) (hk : k ≤ 60) : biD .repr [d] = some (.str (toPy d).shown) :=
  ((sh_of d h.ok (by have := h.wt; omega)).up h.wt).repr (disp_ok h.ok) (plain_dp d 60 h.ok (Nat.le_trans h.dp hk)) (by omega)
theorem fz_mem {xs : List D} {x : D} (h : frzs xs = xs) (m : x ∈ xs) : frz x = x := by
  rw [frzs_map] at h
  obtain ⟨i, hi⟩ := List.mem_iff_getElem?.mp m
  have := congrArg (·[i]?) h
  simp [hi] at this
  exact this
theorem fz_all : ∀ {xs : List D}, (∀ x, x ∈ xs → frz x = x) → frzs xs = xs
  | [], _ => rfl
  | y :: ys, h => by rw [frzs, h y List.mem_cons_self, fz_all fun x hx => h x (List.mem_cons_of_mem _ hx)]
theorem fz_nod {d : D} (h : frz d = d) : nod d = true := h ▸ (frz_same d).2.2.2
theorem fz_nods {xs : List D} (h : frzs xs = xs) : nods xs = true := h ▸ (frzs_same xs).2.2.2
theorem cutL_map {α β : Type} {f : α → β} {xs : List α} {l h : Option Int} : cutL (xs.map f) l h = (cutL xs l h).map f := by
  unfold cutL
  rw [List.length_map, List.map_take, List.map_drop]
theorem enum_get {xs : List D} : ∀ {k i : Nat}, (enumL k xs)[i]? = (xs[i]?).map fun x => .tup [.int ((k + i : Nat) : Int), x] := by
  induction xs with
  | nil => intro k i; simp [enumL]
  | cons x xs ih =>
    intro k i
    cases i with
    | zero => simp [enumL]
    | succ i =>
      rw [enumL, List.getElem?_cons_succ, ih, List.getElem?_cons_succ, show k + 1 + i = k + (i + 1) by omega]
theorem enum_len {xs : List D} : ∀ {k : Nat}, (enumL k xs).length = xs.length := by
  induction xs with
  | nil => intro k; rfl
  | cons x xs ih => intro k; simp [enumL, ih]
theorem th_int {i : Int} {b k : Nat} (h : 40 + i.natAbs ≤ b) : Th b k (.int i) := ⟨rfl, h, Nat.zero_le _⟩
theorem th_str {s : Str} {b k : Nat} (h : NmOk b s) : Th b k (.str s) := ⟨strOk_list.mpr h.2, h.1, Nat.zero_le _⟩
theorem nm_of {s : Str} {b k : Nat} (h : Th b k (.str s)) : NmOk b s := ⟨h.wt, strOk_list.mp h.ok⟩
structure Ls (b k : Nat) (ys : List D) : Prop where
  ok : okDs ys = true
  wt : wts ys ≤ b
  dp : dps ys ≤ k
  fz : frzs ys = ys
theorem ls_app {b c k : Nat} {xs ys : List D} (h : Ls b k xs) (g : Ls c k ys) : Ls (b + c) k (xs ++ ys) where
  ok := ok_all fun x hx => (List.mem_append.mp hx).elim (ok_mem h.ok) (ok_mem g.ok)
  wt := by rw [wts_app]; have := h.wt; have := g.wt; omega
  dp := dps_le fun x hx => (List.mem_append.mp hx).elim (fun hx => Nat.le_trans (dp_mem hx) h.dp) fun hx => Nat.le_trans (dp_mem hx) g.dp
  fz := fz_all fun x hx => (List.mem_append.mp hx).elim (fz_mem h.fz) (fz_mem g.fz)
theorem cut_mem {α : Type} {xs : List α} {l h : Option Int} {x : α} (hx : x ∈ cutL xs l h) : x ∈ xs := List.mem_of_mem_drop (List.mem_of_mem_take hx)
theorem ls_cut {b k : Nat} {xs : List D} {l h : Option Int} (g : Ls b k xs) : Ls b k (cutL xs l h) where
  ok := ok_all fun x hx => ok_mem g.ok (cut_mem hx)
  wt := Nat.le_trans wts_cut g.wt
  dp := dps_le fun x hx => Nat.le_trans (dp_mem (cut_mem hx)) g.dp
  fz := fz_all fun x hx => fz_mem g.fz (cut_mem hx)
theorem ls_rev {b k : Nat} {xs : List D} (g : Ls b k xs) : Ls b k xs.reverse where
  ok := ok_all fun x hx => ok_mem g.ok (List.mem_reverse.mp hx)
  wt := by rw [wts_rev]; exact g.wt
  dp := dps_le fun x hx => Nat.le_trans (dp_mem (List.mem_reverse.mp hx)) g.dp
  fz := fz_all fun x hx => fz_mem g.fz (List.mem_reverse.mp hx)
theorem ls_up {b c k : Nat} {xs : List D} (g : Ls b k xs) (h : b ≤ c) : Ls c k xs := ⟨g.ok, Nat.le_trans g.wt h, g.dp, g.fz⟩
theorem ls_zero {k : Nat} : Ls 41 k [.int 0] := ⟨rfl, by simp [wts, wt], by simp [dps, dp], rfl⟩
theorem ls_one {b k : Nat} {x : D} (h : Th b k x) (f : frz x = x) : Ls (b + 1) k [x] := ⟨by simp [okDs, h.ok], by have := h.wt; simp [wts]; omega, by have := h.dp; simp [dps]; omega, by simp [frzs, f]⟩
theorem nfms_iff {xs : List D} : nfms xs = true ↔ ∀ x, x ∈ xs → nfm x = true := by rw [nfms_all, List.all_eq_true]
theorem getS_if {c : Prop} [Decidable c] {a b : Mn.Env} {i : Nat} : getS (if c then a else b) i = if c then getS a i else getS b i := by split <;> rfl
theorem len_cut {α : Type} {xs : List α} {l h : Option Int} : (cutL xs l h).length ≤ xs.length := by
  unfold cutL
  simp only [List.length_take, List.length_drop]
  omega
theorem ixN_nat {n i : Nat} (h : i < n) : ixN n (i : Int) = some i := by
  rw [ixN_nn (by omega) (by omega)]
  simp
theorem atI_nat {α : Type} {xs : List α} {i : Nat} {x : α} (h : xs[i]? = some x) : atI xs (i : Int) = some x := by
  unfold L2.atI
  rw [ixN_nat (List.getElem?_eq_some_iff.mp h).1]
  exact h
theorem cut_tail {α : Type} {x : α} {xs : List α} : cutL (x :: xs) (some 1) none = xs := by
  unfold cutL
  rw [show HT.sIx (x :: xs).length 0 (some 1) = min 1 (x :: xs).length from HT.sIx_nat _ _ 1]
  simp [HT.sIx]
theorem bls_map {α : Type} (f : α → Bool) : ∀ xs : List α, bls? (xs.map fun x => D.bl (f x)) = some (xs.map f)
  | [] => rfl
  | x :: xs => by
    rw [List.map_cons, bls?, bls_map f xs]
    rfl
@[simp] theorem bl_frzs {α : Type} {f : α → Bool} {xs : List α} : frzs (xs.map fun x => D.bl (f x)) = xs.map fun x => D.bl (f x) := frzs_mapf (fun _ => rfl) xs
@[simp] theorem bl_nfms {α : Type} {f : α → Bool} {xs : List α} : nfms (xs.map fun x => D.bl (f x)) = true := nfms_mapf (fun _ => rfl) xs
theorem fm_map {α β : Type} (f : α → β) : ∀ xs : List α, xs.filterMap (fun x => some (f x)) = xs.map f
  | [] => rfl
  | x :: xs => by rw [List.filterMap_cons, List.map_cons, fm_map f xs]
theorem th_list {b k : Nat} {o : Bool} {xs : List D} {m : Nat} (h : ∀ x, x ∈ xs → Th b k x) (hl : xs.length ≤ m) : Th (m * (b + 1)) (k + 1) (.lst o xs) where
  ok := ok_all fun x hx => (h x hx).ok
  wt := by
    have : ∀ ys : List D, (∀ x, x ∈ ys → wt x ≤ b) → wts ys ≤ ys.length * (b + 1) := by
      intro ys
      induction ys with
      | nil => intro _; simp [wts]
      | cons y ys ih =>
        intro h
        have h1 := h y List.mem_cons_self
        have h2 := ih fun x hx => h x (List.mem_cons_of_mem _ hx)
        simp only [wts, List.length_cons, Nat.add_mul]
        omega
    exact Nat.le_trans (this xs fun x hx => (h x hx).wt) (Nat.mul_le_mul_right _ hl)
  dp := by
    show dps xs + 1 ≤ k + 1
    have := dps_le (k := k) fun x hx => (h x hx).dp
    omega
theorem th_tuple {b k : Nat} {xs : List D} {m : Nat} (h : ∀ x, x ∈ xs → Th b k x) (hl : xs.length ≤ m) : Th (m * (b + 1)) (k + 1) (.tup xs) := by
  have := th_list (o := true) h hl
  exact ⟨this.ok, this.wt, this.dp⟩
end Mn

namespace Lawk13
open PySem L2 Mn
def top (i : Nat) : Stmt := PySem.Challenge.pw_potround_k13_stretches_of_hours.main.body.getD i (.Pass ⟨0, 0, 0, 0⟩)
abbrev s_colour_row : Stmt := top 3
def b_colour_row : Ss :=
  (.cons (.for_ (.nm 2) [0] true (.seq (.ix true (.nm 0) (.cst (.int 0)))) (.cons (.ite (.cmp .eq true (.ix true (.nm 2) (.cst (.int 0))) (.nm 1)) (.cons (.ret [2] (.mv 2))
  .nil) .nil)
  .nil))
  (.cons .nev
  .nil))
def f_colour_row : Fn := ⟨"colour_row", ["palette", "colour"], ["palette", "colour", "row"], [], [], b_colour_row, []⟩
abbrev s_wash_for : Stmt := top 4
def b_wash_for : Ss :=
  (.cons (.ite (.cmp .isn true (.nm 1) (.cst .non)) (.cons (.ex (.call true 0 (.cons true (.nm 0) (.cons true (.nm 1) .nil))))
  .nil) .nil)
  (.cons (.ex (.call true 0 (.cons true (.nm 0) (.cons true (.nm 2) .nil))))
  (.cons (.for_ (.tup (.cons (.nm 3) (.cons (.nm 4) (.cons (.nm 5) .nil)))) [0] true (.seq (.ix true (.nm 0) (.cst (.int 1)))) (.cons (.ite (.and (.cmp .eq true (.nm 3) (.nm 1)) (.one (.cmp .eq true (.nm 4) (.nm 2)))) (.cons (.ret [5] (.mv 5))
  .nil) .nil)
  .nil))
  (.cons (.ret [] (.cst (.int 0)))
  .nil))))
def f_wash_for : Fn := ⟨"wash_for", ["palette", "ahead", "behind"], ["palette", "ahead", "behind", "one", "other", "hours"], [], [], b_wash_for, []⟩
abbrev s_ready_at : Stmt := top 5
def b_ready_at : Ss :=
  (.cons (.asg (.tup (.cons (.nm 3) (.cons (.nm 4) (.cons (.nm 5) (.cons (.nm 6) .nil))))) [0, 1] (.call true 0 (.cons true (.nm 0) (.cons true (.nm 1) .nil))))
  (.cons (.ret [2, 4, 5] (.bin .add true (.bin .add true (.nm 2) (.nm 4)) (.nm 5)))
  .nil))
def f_ready_at : Fn := ⟨"ready_at", ["palette", "colour", "at"], ["palette", "colour", "at", "name", "charge", "melt", "gathers"], [], [(.int 0)], b_ready_at, []⟩
abbrev s_word_ends : Stmt := top 8
def b_word_ends : Ss :=
  (.cons (.asg (.tup (.cons (.nm 3) (.cons (.nm 4) (.cons (.nm 5) (.cons (.nm 6) .nil))))) [1] (.nm 1))
  (.cons (.asg (.nm 7) [3, 0, 4] (.bin .add true (.nm 3) (.ix true (.call true 0 (.cons true (.nm 0) (.cons true (.nm 4) .nil))) (.cst (.int 1)))))
  (.cons (.asg (.nm 8) [0, 4, 3] (.call true 2 (.cons true (.nm 0) (.cons true (.nm 4) (.cons true (.nm 3) .nil)))))
  (.cons (.ret [7, 8, 5, 6, 2] (.lst (.cons true (.tup (.cons true (.cst (.str "filled")) (.cons true (.mv 7) .nil))) (.cons true (.tup (.cons true (.cst (.str "melting")) (.cons true (.mv 8) .nil))) (.cons true (.tup (.cons true (.cst (.str "ready")) (.cons true (.mv 5) .nil))) (.cons true (.tup (.cons true (.cst (.str "worked")) (.cons true (.nm 6) .nil))) (.cons true (.tup (.cons true (.cst (.str "washed")) (.cons true (.bin .add true (.nm 6) (.nm 2)) .nil))) .nil)))))))
  .nil))))
def f_word_ends : Fn := ⟨"word_ends", ["palette", "turn", "wash"], ["palette", "turn", "wash", "at", "colour", "begin", "end", "charged", "melted"], [], [], b_word_ends, []⟩
abbrev s_word_by : Stmt := top 9
def b_word_by : Ss :=
  (.cons (.for_ (.tup (.cons (.nm 4) (.cons (.nm 5) .nil))) [0, 1, 2] true (.seq (.call true 3 (.cons true (.nm 0) (.cons true (.nm 1) (.cons true (.nm 2) .nil))))) (.cons (.ite (.cmp .lt true (.nm 3) (.nm 5)) (.cons (.ret [4] (.mv 4))
  .nil) .nil)
  .nil))
  (.cons (.ret [] (.glob "OUT" (.str "out")))
  .nil))
def f_word_by : Fn := ⟨"word_by", ["palette", "turn", "wash", "hour"], ["palette", "turn", "wash", "hour", "word", "until"], [], [], b_word_by, []⟩
abbrev s_wash_behind : Stmt := top 10
def b_wash_behind : Ss :=
  (.cons (.ite (.cmp .eq true (.bin .add true (.nm 2) (.cst (.int 1))) (.bi .len (.cons true (.nm 1) .nil))) (.cons (.ret [] (.cst (.int 0)))
  .nil) .nil)
  (.cons (.ret [0, 1, 2] (.call true 1 (.cons true (.mv 0) (.cons true (.ix true (.ix true (.nm 1) (.nm 2)) (.cst (.int 1))) (.cons true (.ix true (.ix true (.nm 1) (.bin .add true (.nm 2) (.cst (.int 1)))) (.cst (.int 1))) .nil)))))
  .nil))
def f_wash_behind : Fn := ⟨"wash_behind", ["palette", "turns", "number"], ["palette", "turns", "number"], [], [], b_wash_behind, []⟩
abbrev s_last_filled : Stmt := top 11
def b_last_filled : Ss :=
  (.cons (.ret [0, 3, 1, 2] (.mxd false (.lc [2, 3] true false (.tup (.cons (.nm 2) (.cons (.nm 3) .nil))) [0] (.enum (.nm 0)) (.yes (.cmp .le true (.ix true (.nm 3) (.cst (.int 0))) (.nm 1))) (.nm 2)) .non))
  .nil)
def f_last_filled : Fn := ⟨"last_filled", ["turns", "hour"], ["turns", "hour", "number", "turn"], [], [], b_last_filled, []⟩
abbrev s_state_at : Stmt := top 12
def b_state_at : Ss :=
  (.cons (.asg (.nm 3) [1, 2] (.call true 6 (.cons true (.nm 1) (.cons true (.nm 2) .nil))))
  (.cons (.ite (.cmp .is true (.nm 3) (.cst .non)) (.cons (.ret [] (.tup (.cons true (.glob "OUT" (.str "out")) (.cons true (.cst .non) .nil))))
  .nil) .nil)
  (.cons (.ret [0, 1, 3, 2] (.tup (.cons true (.call true 4 (.cons true (.nm 0) (.cons true (.ix true (.nm 1) (.nm 3)) (.cons true (.call true 5 (.cons true (.nm 0) (.cons true (.nm 1) (.cons true (.nm 3) .nil)))) (.cons true (.mv 2) .nil))))) (.cons true (.nm 3) .nil))))
  .nil)))
def f_state_at : Fn := ⟨"state_at", ["palette", "turns", "hour"], ["palette", "turns", "hour", "number"], [], [], b_state_at, []⟩
abbrev s_all_stretches : Stmt := top 13
def b_all_stretches : Ss :=
  (.cons (.asg (.nm 3) [1, 6, 2] (.bin .add true (.lc [6] true false (.nm 6) [1] (.seq (.nm 1)) .no (.ix true (.nm 6) (.cst (.int 0)))) (.lst (.cons true (.nm 2) .nil))))
  (.cons (.asg (.nm 4) [3] (.lst (.cons true (.tup (.cons true (.glob "OUT" (.str "out")) (.cons true (.cst .non) (.cons true (.cst (.int 0)) (.cons true (.ix true (.nm 3) (.cst (.int 0))) .nil))))) .nil)))
  (.cons (.for_ (.tup (.cons (.nm 5) (.cons (.nm 6) .nil))) [1] false (.enum (.nm 1)) (.cons (.asg (.nm 7) [6] (.ix true (.nm 6) (.cst (.int 0))))
  (.cons (.for_ (.tup (.cons (.nm 8) (.cons (.nm 9) .nil))) [0, 6, 1, 5] true (.seq (.call true 3 (.cons true (.nm 0) (.cons true (.nm 6) (.cons true (.call true 5 (.cons true (.nm 0) (.cons true (.nm 1) (.cons true (.nm 5) .nil)))) .nil))))) (.cons (.ex (.mu .append (.sl 4) (.cons true (.tup (.cons true (.nm 8) (.cons true (.nm 5) (.cons true (.nm 7) (.cons true (.nm 9) .nil))))) .nil)))
  (.cons (.asg (.nm 7) [9] (.nm 9))
  .nil)))
  (.cons (.ex (.mu .append (.sl 4) (.cons true (.tup (.cons true (.glob "OUT" (.str "out")) (.cons true (.nm 5) (.cons true (.nm 7) (.cons true (.ix true (.nm 3) (.bin .add true (.nm 5) (.cst (.int 1)))) .nil))))) .nil)))
  .nil))))
  (.cons (.ret [4] (.mv 4))
  .nil))))
def f_all_stretches : Fn := ⟨"all_stretches", ["palette", "turns", "last"], ["palette", "turns", "last", "begins", "found", "number", "turn", "since", "word", "until"], [], [], b_all_stretches, []⟩
abbrev s_stretches : Stmt := top 14
def b_stretches : Ss :=
  (.cons (.asg (.nm 4) [] (.lst .nil))
  (.cons (.for_ (.tup (.cons (.nm 5) (.cons (.nm 6) (.cons (.nm 7) (.cons (.nm 8) .nil))))) [0, 1, 3] true (.seq (.call true 8 (.cons true (.nm 0) (.cons true (.nm 1) (.cons true (.nm 3) .nil))))) (.cons (.ite (.cmp .lt true (.bi .max2 (.cons true (.nm 7) (.cons true (.nm 2) .nil))) (.bi .min2 (.cons true (.nm 8) (.cons true (.nm 3) .nil)))) (.cons (.ex (.mu .append (.sl 4) (.cons true (.tup (.cons true (.nm 5) (.cons true (.nm 6) (.cons true (.bi .max2 (.cons true (.nm 7) (.cons true (.nm 2) .nil))) (.cons true (.bi .min2 (.cons true (.nm 8) (.cons true (.nm 3) .nil))) .nil))))) .nil)))
  .nil) .nil)
  .nil))
  (.cons (.ret [4] (.mv 4))
  .nil)))
def f_stretches : Fn := ⟨"stretches", ["palette", "turns", "first", "last"], ["palette", "turns", "first", "last", "found", "word", "number", "since", "until"], [], [], b_stretches, []⟩
abbrev s_law_box : Stmt := top 16
def b_law_box : Ss :=
  (.cons (.asg (.nm 2) [1, 0] (.ifx (.cmp .lt true (.nm 1) (.bi .len (.cons true (.nm 0) .nil))) (.ix true (.nm 0) (.nm 1)) (.cst (.int 0))))
  (.cons (.ret [2, 1] (.lst (.cons true (.bin .mul true (.bi .abs (.cons true (.nm 2) .nil)) (.bi .int (.cons true (.cmp .ge true (.bi .abs (.cons true (.nm 2) .nil)) (.bin .pow true (.cst (.int 10)) (.cst (.int 18)))) .nil))) (.cons true (.bin .add true (.bin .add true (.bin .mod true (.nm 2) (.cst (.int 2305843009213693951))) (.bin .mul true (.cst (.int 39373)) (.nm 1))) (.cst (.int 17))) (.cons true (.cst (.int 0)) .nil)))))
  .nil))
def f_law_box : Fn := ⟨"_law_box", ["_law_script", "_law_k"], ["_law_script", "_law_k", "_law_cell"], [], [], b_law_box, []⟩
abbrev s_law_take : Stmt := top 17
def b_law_take : Ss :=
  (.cons (.ite (.cmp .gt true (.ix true (.nm 0) (.cst (.int 0))) (.cst (.int 0))) (.cons (.asg (.nm 2) [0, 1] (.bin .mod true (.ix true (.nm 0) (.cst (.int 0))) (.nm 1)))
  (.cons (.asg (.sub (.sl 0) (.cst (.int 0))) [0, 1] (.bin .fdiv true (.ix true (.nm 0) (.cst (.int 0))) (.nm 1)))
  (.cons (.ret [2] (.mv 2))
  .nil))) .nil)
  (.cons (.asg (.sub (.sl 0) (.cst (.int 2))) [0] (.bin .add true (.ix true (.nm 0) (.cst (.int 2))) (.cst (.int 1))))
  (.cons (.asg (.nm 3) [0] (.bin .mod true (.bin .pow true (.bin .add true (.ix true (.nm 0) (.cst (.int 1))) (.bin .mul true (.cst (.int 39373)) (.ix true (.nm 0) (.cst (.int 2))))) (.cst (.int 5))) (.cst (.int 2147483647))))
  (.cons (.ret [3, 0, 1] (.bin .mod true (.bin .fdiv true (.bin .mod true (.bin .add true (.bin .mul true (.nm 3) (.bin .add true (.bin .mod true (.nm 3) (.cst (.int 40009))) (.cst (.int 7)))) (.bin .mul true (.ix true (.nm 0) (.cst (.int 2))) (.cst (.int 7919)))) (.cst (.int 2147483629))) (.cst (.int 64))) (.nm 1)))
  .nil))))
def f_law_take : Fn := ⟨"_law_take", ["_law_box_here", "_law_many"], ["_law_box_here", "_law_many", "_law_found", "_law_once"], [0], [], b_law_take, []⟩
abbrev s_law_names : Stmt := top 18
def b_law_names : Ss :=
  (.cons (.asg (.tup (.cons (.nm 2) (.cons (.nm 3) (.cons (.nm 4) .nil)))) [] (.tup (.cons true (.cst (.str "abcdefghijklmnopqrstuvwxyz")) (.cons true (.call true 11 (.io 0 (.cons true (.cst (.int 676)) .nil))) (.cons true (.call true 11 (.io 0 (.cons true (.cst (.int 5)) .nil))) .nil)))))
  (.cons (.asg (.nm 5) [] (.ix true (.lst (.cons true (.cst (.int 1)) (.cons true (.cst (.int 3)) (.cons true (.cst (.int 5)) (.cons true (.cst (.int 7)) (.cons true (.cst (.int 25)) (.cons true (.cst (.int 675)) .nil))))))) (.call true 11 (.io 0 (.cons true (.cst (.int 6)) .nil)))))
  (.cons (.ite (.cmp .eq true (.nm 4) (.cst (.int 0))) (.cons (.asg (.nm 6) [] (.mt .split true (.cst (.str "never at undo slots done wash pot kind fill gather team colour")) (.cons true (.cst (.str " ")) .nil)))
  (.cons (.ret [6, 3, 1] (.sl true true (.sl true true (.bin .add true (.nm 6) (.nm 6)) (.yes (.bin .mod true (.nm 3) (.cst (.int 12)))) .no) .no (.yes (.nm 1))))
  .nil)) .nil)
  (.cons (.ite (.cmp .eq true (.nm 4) (.cst (.int 1))) (.cons (.ret [1, 2, 3, 5, 11] (.lc [11] true false (.nm 11) [1] (.rng1 (.nm 1)) .no (.ix true (.nm 2) (.bin .mod true (.bin .add true (.nm 3) (.bin .mul true (.nm 5) (.nm 11))) (.cst (.int 26))))))
  .nil) .nil)
  (.cons (.asg (.nm 7) [2] (.mt .join true (.cst (.str "")) (.cons true (.lc [14] true true (.nm 14) [] (.rng1 (.call true 11 (.io 0 (.cons true (.cst (.int 4)) .nil)))) .no (.ix true (.nm 2) (.call true 11 (.io 0 (.cons true (.cst (.int 26)) .nil))))) .nil)))
  (.cons (.asg (.nm 8) [2] (.mt .join true (.cst (.str "")) (.cons true (.lc [14] true true (.nm 14) [] (.rng1 (.call true 11 (.io 0 (.cons true (.cst (.int 3)) .nil)))) .no (.ix true (.nm 2) (.call true 11 (.io 0 (.cons true (.cst (.int 26)) .nil))))) .nil)))
  (.cons (.par [9, 10] [] (.cons true (.call true 11 (.io 0 (.cons true (.cst (.int 2)) .nil))) (.cons true (.lst .nil) .nil)))
  (.cons (.for_ (.nm 11) [1] true (.rng1 (.nm 1)) (.cons (.asg (.nm 12) [3, 5, 11] (.bin .mod true (.bin .add true (.nm 3) (.bin .mul true (.nm 5) (.nm 11))) (.cst (.int 676))))
  (.cons (.asg (.nm 13) [7, 2, 12, 8] (.bin .add true (.bin .add true (.bin .add true (.nm 7) (.ix true (.nm 2) (.bin .fdiv true (.nm 12) (.cst (.int 26))))) (.ix true (.nm 2) (.bin .mod true (.nm 12) (.cst (.int 26))))) (.nm 8)))
  (.cons (.ite (.and (.cmp .eq true (.nm 9) (.cst (.int 1))) (.one (.cmp .eq true (.bin .mod true (.nm 11) (.cst (.int 2))) (.cst (.int 1))))) (.cons (.asg (.nm 13) [10, 2, 3, 11] (.bin .add true (.ix true (.nm 10) (.neg (.cst (.int 1)))) (.ix true (.nm 2) (.bin .mod true (.bin .add true (.nm 3) (.nm 11)) (.cst (.int 26))))))
  .nil) .nil)
  (.cons (.ex (.mu .append (.sl 10) (.cons true (.nm 13) .nil)))
  .nil)))))
  (.cons (.ret [10] (.mv 10))
  .nil)))))))))
def f_law_names : Fn := ⟨"_law_names", ["_law_box_here", "_law_many"], ["_law_box_here", "_law_many", "_law_letters", "_law_first", "_law_way", "_law_step", "_law_words", "_law_head", "_law_tail", "_law_longer", "_law_found", "_law_k", "_law_value", "_law_name", "_law_turn"], [0], [], b_law_names, []⟩
abbrev s_law_palette : Stmt := top 19
def b_law_palette : Ss :=
  (.cons (.par [2, 3, 4] [1] (.cons true (.call true 12 (.io 0 (.cons true (.bin .add true (.cst (.int 1)) (.call true 11 (.io 0 (.cons true (.nm 1) .nil)))) .nil))) (.cons true (.lst .nil) (.cons true (.lst .nil) .nil))))
  (.cons (.for_ (.nm 5) [2] true (.seq (.nm 2)) (.cons (.asg (.nm 6) [] (.ix true (.lst (.cons true (.cst (.int 1)) (.cons true (.bin .add true (.cst (.int 1)) (.call true 11 (.io 0 (.cons true (.cst (.int 3)) .nil)))) (.cons true (.cst (.int 20)) (.cons true (.bin .add true (.cst (.int 1)) (.call true 11 (.io 0 (.cons true (.cst (.int 20)) .nil)))) .nil))))) (.call true 11 (.io 0 (.cons true (.cst (.int 4)) .nil)))))
  (.cons (.asg (.nm 7) [] (.ix true (.lst (.cons true (.cst (.int 0)) (.cons true (.call true 11 (.io 0 (.cons true (.cst (.int 4)) .nil))) (.cons true (.cst (.int 99)) (.cons true (.call true 11 (.io 0 (.cons true (.cst (.int 100)) .nil))) .nil))))) (.call true 11 (.io 0 (.cons true (.cst (.int 4)) .nil)))))
  (.cons (.ex (.mu .append (.sl 3) (.cons true (.tup (.cons true (.nm 5) (.cons true (.nm 6) (.cons true (.nm 7) (.cons true (.bin .add true (.cst (.int 1)) (.call true 11 (.io 0 (.cons true (.cst (.int 999)) .nil)))) .nil))))) .nil)))
  .nil))))
  (.cons (.for_ (.nm 8) [2] false (.rng1 (.bin .mul true (.bi .len (.cons true (.nm 2) .nil)) (.bi .len (.cons true (.nm 2) .nil)))) (.cons (.asg (.nm 9) [2, 8] (.tup (.cons true (.ix true (.nm 2) (.bin .fdiv true (.nm 8) (.bi .len (.cons true (.nm 2) .nil)))) (.cons true (.ix true (.nm 2) (.bin .mod true (.nm 8) (.bi .len (.cons true (.nm 2) .nil)))) .nil))))
  (.cons (.ite (.and (.cmp .ne true (.ix true (.nm 9) (.cst (.int 0))) (.ix true (.nm 9) (.cst (.int 1)))) (.and (.cmp .lt true (.bi .len (.cons true (.nm 4) .nil)) (.cst (.int 60))) (.one (.cmp .gt true (.call true 11 (.io 0 (.cons true (.cst (.int 3)) .nil))) (.cst (.int 0)))))) (.cons (.asg (.nm 10) [] (.ix true (.lst (.cons true (.cst (.int 0)) (.cons true (.bin .add true (.cst (.int 1)) (.call true 11 (.io 0 (.cons true (.cst (.int 4)) .nil)))) (.cons true (.cst (.int 99)) (.cons true (.cst .non) (.cons true (.call true 11 (.io 0 (.cons true (.cst (.int 100)) .nil))) .nil)))))) (.call true 11 (.io 0 (.cons true (.cst (.int 5)) .nil)))))
  (.cons (.ex (.mu .append (.sl 4) (.cons true (.bin .add true (.nm 9) (.tup (.cons true (.nm 10) .nil))) .nil)))
  .nil)) .nil)
  .nil)))
  (.cons (.ret [3, 4] (.tup (.cons true (.bi .tuple (.cons true (.bi .sorted (.cons true (.nm 3) .nil)) .nil)) (.cons true (.bi .tuple (.cons true (.bi .sorted (.cons true (.nm 4) .nil)) .nil)) .nil))))
  .nil))))
def f_law_palette : Fn := ⟨"_law_palette", ["_law_box_here", "_law_most"], ["_law_box_here", "_law_most", "_law_names_here", "_law_colours", "_law_washes", "_law_name", "_law_charge", "_law_melt", "_law_k", "_law_pair", "_law_hours_here"], [0], [], b_law_palette, []⟩
abbrev s_law_wash : Stmt := top 20
def b_law_wash : Ss :=
  (.cons (.asg (.nm 3) [0, 4, 1, 2] (.lc [4] true false (.nm 4) [0] (.seq (.ix true (.nm 0) (.cst (.int 1)))) (.yes (.cmp .eq true (.sl true true (.nm 4) .no (.yes (.cst (.int 2)))) (.tup (.cons true (.nm 1) (.cons true (.nm 2) .nil))))) (.ix true (.nm 4) (.cst (.int 2)))))
  (.cons (.ret [3] (.ifx (.cmp .ne true (.nm 3) (.lst .nil)) (.ix true (.nm 3) (.cst (.int 0))) (.cst (.int 0))))
  .nil))
def f_law_wash : Fn := ⟨"_law_wash", ["_law_palette_here", "_law_ahead", "_law_behind"], ["_law_palette_here", "_law_ahead", "_law_behind", "_law_found", "_law_row"], [], [], b_law_wash, []⟩
abbrev s_law_hours : Stmt := top 21
def b_law_hours : Ss :=
  (.cons (.ret [0, 2, 1] (.ix true (.lc [2] true false (.nm 2) [0] (.seq (.ix true (.nm 0) (.cst (.int 0)))) (.yes (.cmp .eq true (.ix true (.nm 2) (.cst (.int 0))) (.nm 1))) (.sl true true (.nm 2) (.yes (.cst (.int 1))) (.yes (.cst (.int 3))))) (.cst (.int 0))))
  .nil)
def f_law_hours : Fn := ⟨"_law_hours", ["_law_palette_here", "_law_colour"], ["_law_palette_here", "_law_colour", "_law_row"], [], [], b_law_hours, []⟩
abbrev s_law_turns : Stmt := top 22
def b_law_turns : Ss :=
  (.cons (.asg (.tup (.cons (.nm 3) (.cons (.nm 4) (.cons (.nm 5) .nil)))) [] (.tup (.cons true (.lst .nil) (.cons true (.ix true (.lst (.cons true (.cst (.int 0)) (.cons true (.cst (.int 1)) (.cons true (.call true 11 (.io 0 (.cons true (.cst (.int 60)) .nil))) .nil)))) (.call true 11 (.io 0 (.cons true (.cst (.int 3)) .nil)))) (.cons true (.cst .non) .nil)))))
  (.cons (.for_ (.nm 6) [2] true (.rng1 (.nm 2)) (.cons (.asg (.nm 7) [1, 5, 17] (.lc [17] true false (.nm 17) [1] (.seq (.ix true (.nm 1) (.cst (.int 0)))) (.yes (.cmp .isn true (.call true 14 (.cons true (.nm 1) (.cons true (.nm 5) (.cons true (.ix true (.nm 17) (.cst (.int 0))) .nil)))) (.cst .non))) (.nm 17)))
  (.cons (.asg (.tup (.cons (.nm 8) (.cons (.nm 9) (.cons (.nm 10) (.cons (.nm 11) .nil))))) [7] (.ix true (.nm 7) (.call true 11 (.io 0 (.cons true (.bi .len (.cons true (.nm 7) .nil)) .nil)))))
  (.cons (.asg (.nm 12) [4, 1, 5, 8] (.bin .add true (.bin .add true (.nm 4) (.call true 14 (.cons true (.nm 1) (.cons true (.nm 5) (.cons true (.nm 8) .nil))))) (.ix true (.lst (.cons true (.cst (.int 0)) (.cons true (.cst (.int 1)) (.cons true (.call true 11 (.io 0 (.cons true (.cst (.int 4)) .nil))) (.cons true (.call true 11 (.io 0 (.cons true (.cst (.int 40)) .nil))) .nil))))) (.call true 11 (.io 0 (.cons true (.cst (.int 4)) .nil))))))
  (.cons (.asg (.nm 13) [12, 9, 10] (.bin .add true (.bin .add true (.bin .add true (.nm 12) (.nm 9)) (.nm 10)) (.ix true (.lst (.cons true (.cst (.int 0)) (.cons true (.cst (.int 0)) (.cons true (.cst (.int 1)) (.cons true (.call true 11 (.io 0 (.cons true (.cst (.int 30)) .nil))) .nil))))) (.call true 11 (.io 0 (.cons true (.cst (.int 4)) .nil))))))
  (.cons (.asg (.tup (.cons (.nm 4) (.cons (.nm 5) .nil))) [13, 8] (.tup (.cons true (.bin .add true (.nm 13) (.ix true (.lst (.cons true (.cst (.int 1)) (.cons true (.bin .add true (.cst (.int 1)) (.call true 11 (.io 0 (.cons true (.cst (.int 4)) .nil)))) (.cons true (.bin .add true (.cst (.int 1)) (.call true 11 (.io 0 (.cons true (.cst (.int 90)) .nil)))) .nil)))) (.call true 11 (.io 0 (.cons true (.cst (.int 3)) .nil))))) (.cons true (.nm 8) .nil))))
  (.cons (.ex (.mu .append (.sl 3) (.cons true (.tup (.cons true (.nm 12) (.cons true (.nm 8) (.cons true (.nm 13) (.cons true (.nm 4) .nil))))) .nil)))
  .nil)))))))
  (.cons (.asg (.nm 14) [4] (.bin .mul true (.bin .sub true (.bin .pow true (.cst (.int 10)) (.cst (.int 6))) (.nm 4)) (.bi .int (.cons true (.cmp .eq true (.call true 11 (.io 0 (.cons true (.cst (.int 8)) .nil))) (.cst (.int 0))) .nil))))
  (.cons (.ret [3, 12, 14, 15, 13, 16] (.lc [12, 15, 13, 16] true false (.tup (.cons (.nm 12) (.cons (.nm 15) (.cons (.nm 13) (.cons (.nm 16) .nil))))) [3] (.seq (.nm 3)) .no (.tup (.cons true (.bin .add true (.nm 12) (.nm 14)) (.cons true (.nm 15) (.cons true (.bin .add true (.nm 13) (.nm 14)) (.cons true (.bin .add true (.nm 16) (.nm 14)) .nil)))))))
  .nil))))
def f_law_turns : Fn := ⟨"_law_turns", ["_law_box_here", "_law_palette_here", "_law_many"], ["_law_box_here", "_law_palette_here", "_law_many", "_law_found", "_law_free", "_law_last", "_law_k", "_law_some", "_law_name", "_law_charge", "_law_melt", "_law_gathers", "_law_at", "_law_begin", "_law_by", "_law_colour", "_law_end", "_law_row"], [0], [], b_law_turns, []⟩
abbrev s_law_same : Stmt := top 23
def b_law_same : Ss :=
  (.cons (.ite (.isi (.nm 1) [.list, .tuple]) (.cons (.ite (.or (.cmp .ne true (.isi (.nm 0) [.list]) (.isi (.nm 1) [.list])) (.one (.cmp .ne true (.isi (.nm 0) [.tuple]) (.isi (.nm 1) [.tuple])))) (.cons (.ret [] (.cst (.bl false)))
  .nil) .nil)
  (.cons (.ret [0, 1, 2, 3] (.and (.cmp .eq true (.bi .len (.cons true (.nm 0) .nil)) (.bi .len (.cons true (.nm 1) .nil))) (.one (.bi .all (.cons true (.lc [2, 3] true false (.tup (.cons (.nm 2) (.cons (.nm 3) .nil))) [0, 1] (.zip true (.nm 0) (.nm 1)) .no (.call true 17 (.cons true (.nm 2) (.cons true (.nm 3) .nil)))) .nil)))))
  .nil)) .nil)
  (.cons (.ite (.or (.cmp .is true (.nm 1) (.cst .non)) (.one (.isi (.nm 1) [.bool, .str]))) (.cons (.ret [0, 1] (.and (.cmp .eq true (.nm 0) (.nm 1)) (.and (.cmp .eq true (.isi (.nm 0) [.bool]) (.isi (.nm 1) [.bool])) (.one (.cmp .eq true (.cmp .is true (.nm 0) (.cst .non)) (.cmp .is true (.nm 1) (.cst .non)))))))
  .nil) .nil)
  (.cons (.ret [0, 1] (.and (.isi (.nm 0) [.int]) (.and (.not (.isi (.nm 0) [.bool])) (.one (.cmp .eq true (.nm 0) (.nm 1))))))
  .nil)))
def f_law_same : Fn := ⟨"_law_same", ["_law_found", "_law_due"], ["_law_found", "_law_due", "_law_one", "_law_other"], [], [], b_law_same, []⟩
abbrev s_law_edges : Stmt := top 24
def b_law_edges : Ss :=
  (.cons (.asg (.nm 2) [] (.lst (.cons true (.cst (.int 0)) (.cons true (.bin .pow true (.cst (.int 10)) (.cst (.int 6))) .nil))))
  (.cons (.for_ (.tup (.cons (.nm 3) (.cons (.tup (.cons (.nm 4) (.cons (.nm 5) (.cons (.nm 6) (.cons (.nm 7) .nil))))) .nil))) [1] false (.enum (.nm 1)) (.cons (.asg (.tup (.cons (.nm 8) (.cons (.nm 9) .nil))) [0, 5] (.call true 15 (.cons true (.nm 0) (.cons true (.nm 5) .nil))))
  (.cons (.asg (.nm 10) [1, 3] (.sl true true (.nm 1) (.yes (.bin .add true (.nm 3) (.cst (.int 1)))) (.yes (.bin .add true (.nm 3) (.cst (.int 2))))))
  (.cons (.asg (.nm 11) [10, 0, 5] (.ifx (.cmp .ne true (.nm 10) (.lst .nil)) (.call true 14 (.cons true (.nm 0) (.cons true (.nm 5) (.cons true (.ix true (.ix true (.nm 10) (.cst (.int 0))) (.cst (.int 1))) .nil)))) (.cst (.int 0))))
  (.cons (.for_ (.nm 12) [4, 8, 9, 6, 7, 11] true (.seq (.tup (.cons true (.nm 4) (.cons true (.bin .add true (.nm 4) (.nm 8)) (.cons true (.bin .add true (.bin .add true (.nm 4) (.nm 8)) (.nm 9)) (.cons true (.nm 6) (.cons true (.nm 7) (.cons true (.bin .add true (.nm 7) (.nm 11)) .nil)))))))) (.cons (.ex (.mu .extend (.sl 2) (.cons true (.lst (.cons true (.bin .sub true (.nm 12) (.cst (.int 1))) (.cons true (.nm 12) (.cons true (.bin .add true (.nm 12) (.cst (.int 1))) .nil)))) .nil)))
  .nil))
  .nil)))))
  (.cons (.ret [2, 12] (.srt (.lc [12] true false (.nm 12) [2] (.seq (.nm 2)) (.yes (.chn .le .le true true (.cst (.int 0)) (.nm 12) (.bin .pow true (.cst (.int 10)) (.cst (.int 6))))) (.nm 12))))
  .nil)))
def f_law_edges : Fn := ⟨"_law_edges", ["_law_palette_here", "_law_turns_here"], ["_law_palette_here", "_law_turns_here", "_law_found", "_law_number", "_law_at", "_law_colour", "_law_begin", "_law_end", "_law_charge", "_law_melt", "_law_later", "_law_wash_here", "_law_hour"], [], [], b_law_edges, []⟩
abbrev s_law_by_hours : Stmt := top 25
def b_law_by_hours : Ss :=
  (.cons (.asg (.nm 4) [] (.lst .nil))
  (.cons (.for_ (.nm 5) [2, 3] true (.rng2 (.nm 2) (.nm 3)) (.cons (.asg (.tup (.cons (.nm 6) (.cons (.nm 7) .nil))) [0, 1, 5] (.call true 7 (.cons true (.nm 0) (.cons true (.nm 1) (.cons true (.nm 5) .nil)))))
  (.cons (.ite (.and (.cmp .ne true (.nm 4) (.lst .nil)) (.one (.cmp .eq true (.sl true true (.ix true (.nm 4) (.neg (.cst (.int 1)))) .no (.yes (.cst (.int 2)))) (.tup (.cons true (.nm 6) (.cons true (.nm 7) .nil)))))) (.cons (.asg (.sub (.sl 4) (.neg (.cst (.int 1)))) [6, 7, 4, 5] (.tup (.cons true (.nm 6) (.cons true (.nm 7) (.cons true (.ix true (.ix true (.nm 4) (.neg (.cst (.int 1)))) (.cst (.int 2))) (.cons true (.bin .add true (.nm 5) (.cst (.int 1))) .nil))))))
  .nil) (.cons (.ex (.mu .append (.sl 4) (.cons true (.tup (.cons true (.nm 6) (.cons true (.nm 7) (.cons true (.nm 5) (.cons true (.bin .add true (.nm 5) (.cst (.int 1))) .nil))))) .nil)))
  .nil))
  .nil)))
  (.cons (.ret [4] (.mv 4))
  .nil)))
def f_law_by_hours : Fn := ⟨"_law_by_hours", ["_law_palette_here", "_law_turns_here", "_law_first", "_law_last"], ["_law_palette_here", "_law_turns_here", "_law_first", "_law_last", "_law_found", "_law_hour", "_law_word", "_law_number"], [], [], b_law_by_hours, []⟩
abbrev s_law_whole_right : Stmt := top 26
def b_law_whole_right : Ss :=
  (.cons (.par [4, 5] [0, 1, 2, 3] (.cons true (.call true 9 (.cons true (.nm 0) (.cons true (.nm 1) (.cons true (.nm 2) (.cons true (.nm 3) .nil))))) (.cons true (.nm 2) .nil)))
  (.cons (.ite (.or (.not (.isi (.nm 4) [.list])) (.one (.cmp .ne true (.cmp .lt true (.nm 2) (.nm 3)) (.cmp .ne true (.nm 4) (.lst .nil))))) (.cons (.ret [] (.cst (.bl false)))
  .nil) .nil)
  (.cons (.for_ (.tup (.cons (.nm 6) (.cons (.nm 7) (.cons (.nm 8) (.cons (.nm 9) .nil))))) [4] true (.seq (.nm 4)) (.cons (.ite (.or (.cmp .ne true (.nm 8) (.nm 5)) (.one (.not (.chn .lt .le true true (.nm 8) (.nm 9) (.nm 3))))) (.cons (.ret [] (.cst (.bl false)))
  .nil) .nil)
  (.cons (.asg (.nm 10) [0, 1, 8, 9] (.lst (.cons true (.call true 7 (.cons true (.nm 0) (.cons true (.nm 1) (.cons true (.nm 8) .nil)))) (.cons true (.call true 7 (.cons true (.nm 0) (.cons true (.nm 1) (.cons true (.bin .sub true (.nm 9) (.cst (.int 1))) .nil)))) .nil))))
  (.cons (.ite (.not (.call true 17 (.cons true (.nm 10) (.cons true (.shr (.bin .mul true (.lst (.cons true (.tup (.cons true (.nm 6) (.cons true (.nm 7) .nil))) .nil)) (.cst (.int 2)))) .nil)))) (.cons (.ret [] (.cst (.bl false)))
  .nil) .nil)
  (.cons (.ite (.and (.cmp .lt true (.nm 9) (.nm 3)) (.one (.cmp .eq true (.call true 7 (.cons true (.nm 0) (.cons true (.nm 1) (.cons true (.nm 9) .nil)))) (.tup (.cons true (.nm 6) (.cons true (.nm 7) .nil)))))) (.cons (.ret [] (.cst (.bl false)))
  .nil) .nil)
  (.cons (.asg (.nm 5) [9] (.nm 9))
  .nil))))))
  (.cons (.ret [5, 3] (.cmp .eq true (.nm 5) (.nm 3)))
  .nil))))
def f_law_whole_right : Fn := ⟨"_law_whole_right", ["_law_palette_here", "_law_turns_here", "_law_first", "_law_last"], ["_law_palette_here", "_law_turns_here", "_law_first", "_law_last", "_law_found", "_law_hour", "_law_word", "_law_number", "_law_since", "_law_until", "_law_ends"], [], [], b_law_whole_right, []⟩
abbrev s_law_right : Stmt := top 27
def b_law_right : Ss :=
  (.cons (.asg (.nm 1) [] (.call true 13 (.io 0 (.cons true (.cst (.int 4)) .nil))))
  (.cons (.asg (.nm 2) [1] (.call true 16 (.io 0 (.cons true (.nm 1) (.cons true (.ix true (.lst (.cons true (.cst (.int 0)) (.cons true (.bin .add true (.cst (.int 1)) (.call true 11 (.io 0 (.cons true (.cst (.int 5)) .nil)))) (.cons true (.bin .add true (.cst (.int 1)) (.call true 11 (.io 0 (.cons true (.cst (.int 5)) .nil)))) (.cons true (.cst (.int 30)) .nil))))) (.call true 11 (.io 0 (.cons true (.cst (.int 4)) .nil)))) .nil)))))
  (.cons (.par [3, 4] [1, 2] (.cons true (.bi .repr (.cons true (.lst (.cons true (.nm 1) (.cons true (.nm 2) .nil))) .nil)) (.cons true (.call true 18 (.cons true (.nm 1) (.cons true (.nm 2) .nil))) .nil)))
  (.cons (.for_ (.nm 5) [] true (.rng1 (.cst (.int 6))) (.cons (.asg (.nm 6) [4] (.ix true (.nm 4) (.call true 11 (.io 0 (.cons true (.bi .len (.cons true (.nm 4) .nil)) .nil)))))
  (.cons (.asg (.nm 7) [6] (.bi .min2 (.cons true (.bin .pow true (.cst (.int 10)) (.cst (.int 6))) (.cons true (.bin .add true (.nm 6) (.ix true (.lst (.cons true (.cst (.int 0)) (.cons true (.cst (.int 1)) (.cons true (.call true 11 (.io 0 (.cons true (.cst (.int 30)) .nil))) (.cons true (.call true 11 (.io 0 (.cons true (.cst (.int 200)) .nil))) .nil))))) (.call true 11 (.io 0 (.cons true (.cst (.int 4)) .nil))))) .nil))))
  (.cons (.asg (.nm 8) [1, 2, 6, 7] (.call true 19 (.cons true (.nm 1) (.cons true (.nm 2) (.cons true (.nm 6) (.cons true (.nm 7) .nil))))))
  (.cons (.for_ (.nm 9) [] true (.rng1 (.cst (.int 2))) (.cons (.asg (.nm 10) [1, 2, 6, 7] (.call true 9 (.cons true (.nm 1) (.cons true (.nm 2) (.cons true (.nm 6) (.cons true (.nm 7) .nil))))))
  (.cons (.ite (.not (.call true 17 (.cons true (.nm 10) (.cons true (.nm 8) .nil)))) (.cons (.ret [] (.cst (.bl false)))
  .nil) .nil)
  (.cons (.ex (.mu .append (.sl 10) (.cons true (.tup (.cons true (.cst (.str "out")) (.cons true (.cst .non) (.cons true (.nm 6) (.cons true (.nm 7) .nil))))) .nil)))
  .nil))))
  .nil)))))
  (.cons (.for_ (.tup (.cons (.nm 6) (.cons (.nm 7) .nil))) [4] true (.seq (.tup (.cons true (.tup (.cons true (.cst (.int 0)) (.cons true (.bin .pow true (.cst (.int 10)) (.cst (.int 6))) .nil))) (.cons true (.tup (.cons true (.ix true (.nm 4) (.cst (.int 0))) (.cons true (.ix true (.nm 4) (.neg (.cst (.int 1)))) .nil))) (.cons true (.tup (.cons true (.ix true (.nm 4) (.bin .fdiv true (.bi .len (.cons true (.nm 4) .nil)) (.cst (.int 2)))) (.cons true (.bin .pow true (.cst (.int 10)) (.cst (.int 6))) .nil))) .nil))))) (.cons (.ite (.not (.call true 20 (.cons true (.nm 1) (.cons true (.nm 2) (.cons true (.nm 6) (.cons true (.nm 7) .nil)))))) (.cons (.ret [] (.cst (.bl false)))
  .nil) .nil)
  .nil))
  (.cons (.ret [1, 2, 3] (.cmp .eq true (.bi .repr (.cons true (.lst (.cons true (.nm 1) (.cons true (.nm 2) .nil))) .nil)) (.nm 3)))
  .nil))))))
def f_law_right : Fn := ⟨"_law_right", ["_law_box_here"], ["_law_box_here", "_law_palette_here", "_law_turns_here", "_law_kept", "_law_edges_here", "_law_turn", "_law_first", "_law_last", "_law_due", "_law_again", "_law_found"], [0], [], b_law_right, []⟩
abbrev s_law : Stmt := top 28
def b_law : Ss :=
  (.cons (.ret [0, 1] (.bi .all (.cons true (.lc [1] true false (.nm 1) [0] (.rng1 (.bin .add true (.cst (.int 1)) (.bi .min2 (.cons true (.cst (.int 3)) (.cons true (.bi .len (.cons true (.nm 0) .nil)) .nil))))) .no (.call true 23 (.cons true (.call true 10 (.cons true (.nm 0) (.cons true (.nm 1) .nil))) .nil))) .nil)))
  .nil)
def f_law : Fn := ⟨"law", ["_law_script"], ["_law_script", "_law_k"], [], [], b_law, []⟩
def f_law_right_v23 : Fn := ⟨"_law_right", ["_law_box_here"], ["_law_box_here", "_law_palette_here", "_law_turns_here", "_law_kept", "_law_edges_here", "_law_turn", "_law_first", "_law_last", "_law_due", "_law_again", "_law_found"], [], [], b_law_right, []⟩
def fns : List Fn := [f_colour_row, f_wash_for, f_ready_at, f_word_ends, f_word_by, f_wash_behind, f_last_filled, f_state_at, f_all_stretches, f_stretches, f_law_box, f_law_take, f_law_names, f_law_palette, f_law_wash, f_law_hours, f_law_turns, f_law_same, f_law_edges, f_law_by_hours, f_law_whole_right, f_law_right, f_law, f_law_right_v23]
def blts : List Str := ["abs", "all", "bool", "enumerate", "int", "isinstance", "len", "list", "max", "min", "range", "repr", "set", "sorted", "str", "tuple", "zip"]
def gls : List (Str × D) := [("OUT", (.str "out"))]
def ck (f : Fn) (s : Stmt) : Ck := ⟨f.N, defScope s, fun _ => true, fns, blts, gls⟩
theorem c_colour_row : chkSs (ck f_colour_row s_colour_row) f_colour_row.body (defBody s_colour_row) = true := by decide +kernel
theorem sc_colour_row : FnScope f_colour_row.N f_colour_row.ps (defScope s_colour_row) := ⟨rfl, rfl, rfl, by decide +kernel, rfl, by decide +kernel, by decide +kernel⟩
theorem io_colour_row : ∀ j, j ∈ f_colour_row.io → j < f_colour_row.ps.length ∧ j ∉ f_colour_row.body.A := by decide +kernel
theorem c_wash_for : chkSs (ck f_wash_for s_wash_for) f_wash_for.body (defBody s_wash_for) = true := by decide +kernel
theorem sc_wash_for : FnScope f_wash_for.N f_wash_for.ps (defScope s_wash_for) := ⟨rfl, rfl, rfl, by decide +kernel, rfl, by decide +kernel, by decide +kernel⟩
theorem io_wash_for : ∀ j, j ∈ f_wash_for.io → j < f_wash_for.ps.length ∧ j ∉ f_wash_for.body.A := by decide +kernel
theorem c_ready_at : chkSs (ck f_ready_at s_ready_at) f_ready_at.body (defBody s_ready_at) = true := by decide +kernel
theorem sc_ready_at : FnScope f_ready_at.N f_ready_at.ps (defScope s_ready_at) := ⟨rfl, rfl, rfl, by decide +kernel, rfl, by decide +kernel, by decide +kernel⟩
theorem io_ready_at : ∀ j, j ∈ f_ready_at.io → j < f_ready_at.ps.length ∧ j ∉ f_ready_at.body.A := by decide +kernel
theorem c_word_ends : chkSs (ck f_word_ends s_word_ends) f_word_ends.body (defBody s_word_ends) = true := by decide +kernel
theorem sc_word_ends : FnScope f_word_ends.N f_word_ends.ps (defScope s_word_ends) := ⟨rfl, rfl, rfl, by decide +kernel, rfl, by decide +kernel, by decide +kernel⟩
theorem io_word_ends : ∀ j, j ∈ f_word_ends.io → j < f_word_ends.ps.length ∧ j ∉ f_word_ends.body.A := by decide +kernel
theorem c_word_by : chkSs (ck f_word_by s_word_by) f_word_by.body (defBody s_word_by) = true := by decide +kernel
theorem sc_word_by : FnScope f_word_by.N f_word_by.ps (defScope s_word_by) := ⟨rfl, rfl, rfl, by decide +kernel, rfl, by decide +kernel, by decide +kernel⟩
theorem io_word_by : ∀ j, j ∈ f_word_by.io → j < f_word_by.ps.length ∧ j ∉ f_word_by.body.A := by decide +kernel
theorem c_wash_behind : chkSs (ck f_wash_behind s_wash_behind) f_wash_behind.body (defBody s_wash_behind) = true := by decide +kernel
theorem sc_wash_behind : FnScope f_wash_behind.N f_wash_behind.ps (defScope s_wash_behind) := ⟨rfl, rfl, rfl, by decide +kernel, rfl, by decide +kernel, by decide +kernel⟩
theorem io_wash_behind : ∀ j, j ∈ f_wash_behind.io → j < f_wash_behind.ps.length ∧ j ∉ f_wash_behind.body.A := by decide +kernel
theorem c_last_filled : chkSs (ck f_last_filled s_last_filled) f_last_filled.body (defBody s_last_filled) = true := by decide +kernel
theorem sc_last_filled : FnScope f_last_filled.N f_last_filled.ps (defScope s_last_filled) := ⟨rfl, rfl, rfl, by decide +kernel, rfl, by decide +kernel, by decide +kernel⟩
theorem io_last_filled : ∀ j, j ∈ f_last_filled.io → j < f_last_filled.ps.length ∧ j ∉ f_last_filled.body.A := by decide +kernel
theorem c_state_at : chkSs (ck f_state_at s_state_at) f_state_at.body (defBody s_state_at) = true := by decide +kernel
theorem sc_state_at : FnScope f_state_at.N f_state_at.ps (defScope s_state_at) := ⟨rfl, rfl, rfl, by decide +kernel, rfl, by decide +kernel, by decide +kernel⟩
theorem io_state_at : ∀ j, j ∈ f_state_at.io → j < f_state_at.ps.length ∧ j ∉ f_state_at.body.A := by decide +kernel
theorem c_all_stretches : chkSs (ck f_all_stretches s_all_stretches) f_all_stretches.body (defBody s_all_stretches) = true := by decide +kernel
theorem sc_all_stretches : FnScope f_all_stretches.N f_all_stretches.ps (defScope s_all_stretches) := ⟨rfl, rfl, rfl, by decide +kernel, rfl, by decide +kernel, by decide +kernel⟩
theorem io_all_stretches : ∀ j, j ∈ f_all_stretches.io → j < f_all_stretches.ps.length ∧ j ∉ f_all_stretches.body.A := by decide +kernel
theorem c_stretches : chkSs (ck f_stretches s_stretches) f_stretches.body (defBody s_stretches) = true := by decide +kernel
theorem sc_stretches : FnScope f_stretches.N f_stretches.ps (defScope s_stretches) := ⟨rfl, rfl, rfl, by decide +kernel, rfl, by decide +kernel, by decide +kernel⟩
theorem io_stretches : ∀ j, j ∈ f_stretches.io → j < f_stretches.ps.length ∧ j ∉ f_stretches.body.A := by decide +kernel
theorem c_law_box : chkSs (ck f_law_box s_law_box) f_law_box.body (defBody s_law_box) = true := by decide +kernel
theorem sc_law_box : FnScope f_law_box.N f_law_box.ps (defScope s_law_box) := ⟨rfl, rfl, rfl, by decide +kernel, rfl, by decide +kernel, by decide +kernel⟩
theorem io_law_box : ∀ j, j ∈ f_law_box.io → j < f_law_box.ps.length ∧ j ∉ f_law_box.body.A := by decide +kernel
theorem c_law_take : chkSs (ck f_law_take s_law_take) f_law_take.body (defBody s_law_take) = true := by decide +kernel
theorem sc_law_take : FnScope f_law_take.N f_law_take.ps (defScope s_law_take) := ⟨rfl, rfl, rfl, by decide +kernel, rfl, by decide +kernel, by decide +kernel⟩
theorem io_law_take : ∀ j, j ∈ f_law_take.io → j < f_law_take.ps.length ∧ j ∉ f_law_take.body.A := by decide +kernel
theorem c_law_names : chkSs (ck f_law_names s_law_names) f_law_names.body (defBody s_law_names) = true := by decide +kernel
theorem sc_law_names : FnScope f_law_names.N f_law_names.ps (defScope s_law_names) := ⟨rfl, rfl, rfl, by decide +kernel, rfl, by decide +kernel, by decide +kernel⟩
theorem io_law_names : ∀ j, j ∈ f_law_names.io → j < f_law_names.ps.length ∧ j ∉ f_law_names.body.A := by decide +kernel
theorem c_law_palette : chkSs (ck f_law_palette s_law_palette) f_law_palette.body (defBody s_law_palette) = true := by decide +kernel
theorem sc_law_palette : FnScope f_law_palette.N f_law_palette.ps (defScope s_law_palette) := ⟨rfl, rfl, rfl, by decide +kernel, rfl, by decide +kernel, by decide +kernel⟩
theorem io_law_palette : ∀ j, j ∈ f_law_palette.io → j < f_law_palette.ps.length ∧ j ∉ f_law_palette.body.A := by decide +kernel
theorem c_law_wash : chkSs (ck f_law_wash s_law_wash) f_law_wash.body (defBody s_law_wash) = true := by decide +kernel
theorem sc_law_wash : FnScope f_law_wash.N f_law_wash.ps (defScope s_law_wash) := ⟨rfl, rfl, rfl, by decide +kernel, rfl, by decide +kernel, by decide +kernel⟩
theorem io_law_wash : ∀ j, j ∈ f_law_wash.io → j < f_law_wash.ps.length ∧ j ∉ f_law_wash.body.A := by decide +kernel
theorem c_law_hours : chkSs (ck f_law_hours s_law_hours) f_law_hours.body (defBody s_law_hours) = true := by decide +kernel
theorem sc_law_hours : FnScope f_law_hours.N f_law_hours.ps (defScope s_law_hours) := ⟨rfl, rfl, rfl, by decide +kernel, rfl, by decide +kernel, by decide +kernel⟩
theorem io_law_hours : ∀ j, j ∈ f_law_hours.io → j < f_law_hours.ps.length ∧ j ∉ f_law_hours.body.A := by decide +kernel
theorem c_law_turns : chkSs (ck f_law_turns s_law_turns) f_law_turns.body (defBody s_law_turns) = true := by decide +kernel
theorem sc_law_turns : FnScope f_law_turns.N f_law_turns.ps (defScope s_law_turns) := ⟨rfl, rfl, rfl, by decide +kernel, rfl, by decide +kernel, by decide +kernel⟩
theorem io_law_turns : ∀ j, j ∈ f_law_turns.io → j < f_law_turns.ps.length ∧ j ∉ f_law_turns.body.A := by decide +kernel
theorem c_law_same : chkSs (ck f_law_same s_law_same) f_law_same.body (defBody s_law_same) = true := by decide +kernel
theorem sc_law_same : FnScope f_law_same.N f_law_same.ps (defScope s_law_same) := ⟨rfl, rfl, rfl, by decide +kernel, rfl, by decide +kernel, by decide +kernel⟩
theorem io_law_same : ∀ j, j ∈ f_law_same.io → j < f_law_same.ps.length ∧ j ∉ f_law_same.body.A := by decide +kernel
theorem c_law_edges : chkSs (ck f_law_edges s_law_edges) f_law_edges.body (defBody s_law_edges) = true := by decide +kernel
theorem sc_law_edges : FnScope f_law_edges.N f_law_edges.ps (defScope s_law_edges) := ⟨rfl, rfl, rfl, by decide +kernel, rfl, by decide +kernel, by decide +kernel⟩
theorem io_law_edges : ∀ j, j ∈ f_law_edges.io → j < f_law_edges.ps.length ∧ j ∉ f_law_edges.body.A := by decide +kernel
theorem c_law_by_hours : chkSs (ck f_law_by_hours s_law_by_hours) f_law_by_hours.body (defBody s_law_by_hours) = true := by decide +kernel
theorem sc_law_by_hours : FnScope f_law_by_hours.N f_law_by_hours.ps (defScope s_law_by_hours) := ⟨rfl, rfl, rfl, by decide +kernel, rfl, by decide +kernel, by decide +kernel⟩
theorem io_law_by_hours : ∀ j, j ∈ f_law_by_hours.io → j < f_law_by_hours.ps.length ∧ j ∉ f_law_by_hours.body.A := by decide +kernel
theorem c_law_whole_right : chkSs (ck f_law_whole_right s_law_whole_right) f_law_whole_right.body (defBody s_law_whole_right) = true := by decide +kernel
theorem sc_law_whole_right : FnScope f_law_whole_right.N f_law_whole_right.ps (defScope s_law_whole_right) := ⟨rfl, rfl, rfl, by decide +kernel, rfl, by decide +kernel, by decide +kernel⟩
theorem io_law_whole_right : ∀ j, j ∈ f_law_whole_right.io → j < f_law_whole_right.ps.length ∧ j ∉ f_law_whole_right.body.A := by decide +kernel
theorem c_law_right : chkSs (ck f_law_right s_law_right) f_law_right.body (defBody s_law_right) = true := by decide +kernel
theorem sc_law_right : FnScope f_law_right.N f_law_right.ps (defScope s_law_right) := ⟨rfl, rfl, rfl, by decide +kernel, rfl, by decide +kernel, by decide +kernel⟩
theorem io_law_right : ∀ j, j ∈ f_law_right.io → j < f_law_right.ps.length ∧ j ∉ f_law_right.body.A := by decide +kernel
theorem c_law : chkSs (ck f_law s_law) f_law.body (defBody s_law) = true := by decide +kernel
theorem sc_law : FnScope f_law.N f_law.ps (defScope s_law) := ⟨rfl, rfl, rfl, by decide +kernel, rfl, by decide +kernel, by decide +kernel⟩
theorem io_law : ∀ j, j ∈ f_law.io → j < f_law.ps.length ∧ j ∉ f_law.body.A := by decide +kernel
theorem c_law_right_v23 : chkSs (ck f_law_right_v23 s_law_right) f_law_right_v23.body (defBody s_law_right) = true := by decide +kernel
theorem sc_law_right_v23 : FnScope f_law_right_v23.N f_law_right_v23.ps (defScope s_law_right) := ⟨rfl, rfl, rfl, by decide +kernel, rfl, by decide +kernel, by decide +kernel⟩
theorem io_law_right_v23 : ∀ j, j ∈ f_law_right_v23.io → j < f_law_right_v23.ps.length ∧ j ∉ f_law_right_v23.body.A := by decide +kernel
section
variable {P : Program} {w : World} {K : PySem.W.Frag} {mg : Str → Option Value} {base : Heap} {wf : Nat}
theorem body_of {f : Fn} {s : Stmt} (c : chkSs (ck f s) f.body (defBody s) = true) (nd : f.N.Nodup) (hb : ∀ x, x ∈ blts → mg x = none) (hs : ∀ (j : Nat) (g : Fn), fns[j]? = some g → StrsOk g.dfl) (hg : ∀ x d, (x, d) ∈ gls → GlobOk K mg x d) :
    ∀ n, (∀ (j : Nat) (g : Fn), fns[j]? = some g → CallOk P w K mg base (callD fns wf n) n j g) → SsOk P w K mg base (callD fns wf n) wf ⟨f.N, defScope s, fun _ => true, n⟩ (defBody s) f.body :=
  fun n h => chkSs_ok f.body (c := ck f s) ⟨rfl, rfl, rfl, nd, fun j g e => ⟨h j g e, hs j g e⟩, hb, hg⟩ c
end
theorem dflOk : ∀ (j : Nat) (g : Fn), fns[j]? = some g → StrsOk g.dfl := fun j g h => strs_ok (List.all_eq_true.mp (show fns.all (fun g => g.dfl.all strD) = true by decide +kernel) g (List.mem_of_getElem? h))
theorem all_mk {l : PySem.W.OpenLaw} {w : World} {K : PySem.W.Frag} {h : Heap} {mg : Str → Option Value} {fa : Addr} (X : K.In h) (G : h.Ns mainGlobals mg) (hfa : mg "law" = some (.ref fa)) {k : Nat} {wf : Nat}
    {f0 : Addr} {od0 an0 : Option Addr} {sl0 : Array (Option Value)} {oc0 kV0 dc0 pm0 cd0 ct0 : Value}
    (a0 : PySem.W.nsIn K mainGlobals "colour_row" = some (some (.ref f0))) (l0 : K.lookup f0 = some ⟨oc0, od0, .func (PySem.W.fnOf "colour_row" "colour_row" (defArgs s_colour_row) (defBody s_colour_row) (defScope s_colour_row) .none kV0 dc0 pm0 an0 cd0 ct0), sl0⟩) (c0 : PySem.W.codeIn K cd0 "colour_row" = true) (k0 : PySem.W.keepIn K (.ref f0) = true)
    {f1 : Addr} {od1 an1 : Option Addr} {sl1 : Array (Option Value)} {oc1 kV1 dc1 pm1 cd1 ct1 : Value}
    (a1 : PySem.W.nsIn K mainGlobals "wash_for" = some (some (.ref f1))) (l1 : K.lookup f1 = some ⟨oc1, od1, .func (PySem.W.fnOf "wash_for" "wash_for" (defArgs s_wash_for) (defBody s_wash_for) (defScope s_wash_for) .none kV1 dc1 pm1 an1 cd1 ct1), sl1⟩) (c1 : PySem.W.codeIn K cd1 "wash_for" = true) (k1 : PySem.W.keepIn K (.ref f1) = true)
    {f2 : Addr} {od2 an2 : Option Addr} {sl2 : Array (Option Value)} {oc2 kV2 dc2 pm2 cd2 ct2 : Value} {t2 : Addr} {to2 : Obj} {ti2 : List Value} {tn2 : Nat}
    (a2 : PySem.W.nsIn K mainGlobals "ready_at" = some (some (.ref f2))) (l2 : K.lookup f2 = some ⟨oc2, od2, .func (PySem.W.fnOf "ready_at" "ready_at" (defArgs s_ready_at) (defBody s_ready_at) (defScope s_ready_at) (.ref t2) kV2 dc2 pm2 an2 cd2 ct2), sl2⟩) (c2 : PySem.W.codeIn K cd2 "ready_at" = true) (k2 : PySem.W.keepIn K (.ref f2) = true)
    (d2 : K.lookup t2 = some to2) (e2 : to2.data = .seq ti2.toArray tn2) (v2 : Vals (f_ready_at.dfl.map vOf) ti2)
    {f3 : Addr} {od3 an3 : Option Addr} {sl3 : Array (Option Value)} {oc3 kV3 dc3 pm3 cd3 ct3 : Value}
    (a3 : PySem.W.nsIn K mainGlobals "word_ends" = some (some (.ref f3))) (l3 : K.lookup f3 = some ⟨oc3, od3, .func (PySem.W.fnOf "word_ends" "word_ends" (defArgs s_word_ends) (defBody s_word_ends) (defScope s_word_ends) .none kV3 dc3 pm3 an3 cd3 ct3), sl3⟩) (c3 : PySem.W.codeIn K cd3 "word_ends" = true) (k3 : PySem.W.keepIn K (.ref f3) = true)
    {f4 : Addr} {od4 an4 : Option Addr} {sl4 : Array (Option Value)} {oc4 kV4 dc4 pm4 cd4 ct4 : Value}
    (a4 : PySem.W.nsIn K mainGlobals "word_by" = some (some (.ref f4))) (l4 : K.lookup f4 = some ⟨oc4, od4, .func (PySem.W.fnOf "word_by" "word_by" (defArgs s_word_by) (defBody s_word_by) (defScope s_word_by) .none kV4 dc4 pm4 an4 cd4 ct4), sl4⟩) (c4 : PySem.W.codeIn K cd4 "word_by" = true) (k4 : PySem.W.keepIn K (.ref f4) = true)
    {f5 : Addr} {od5 an5 : Option Addr} {sl5 : Array (Option Value)} {oc5 kV5 dc5 pm5 cd5 ct5 : Value}
    (a5 : PySem.W.nsIn K mainGlobals "wash_behind" = some (some (.ref f5))) (l5 : K.lookup f5 = some ⟨oc5, od5, .func (PySem.W.fnOf "wash_behind" "wash_behind" (defArgs s_wash_behind) (defBody s_wash_behind) (defScope s_wash_behind) .none kV5 dc5 pm5 an5 cd5 ct5), sl5⟩) (c5 : PySem.W.codeIn K cd5 "wash_behind" = true) (k5 : PySem.W.keepIn K (.ref f5) = true)
    {f6 : Addr} {od6 an6 : Option Addr} {sl6 : Array (Option Value)} {oc6 kV6 dc6 pm6 cd6 ct6 : Value}
    (a6 : PySem.W.nsIn K mainGlobals "last_filled" = some (some (.ref f6))) (l6 : K.lookup f6 = some ⟨oc6, od6, .func (PySem.W.fnOf "last_filled" "last_filled" (defArgs s_last_filled) (defBody s_last_filled) (defScope s_last_filled) .none kV6 dc6 pm6 an6 cd6 ct6), sl6⟩) (c6 : PySem.W.codeIn K cd6 "last_filled" = true) (k6 : PySem.W.keepIn K (.ref f6) = true)
    {f7 : Addr} {od7 an7 : Option Addr} {sl7 : Array (Option Value)} {oc7 kV7 dc7 pm7 cd7 ct7 : Value}
    (a7 : PySem.W.nsIn K mainGlobals "state_at" = some (some (.ref f7))) (l7 : K.lookup f7 = some ⟨oc7, od7, .func (PySem.W.fnOf "state_at" "state_at" (defArgs s_state_at) (defBody s_state_at) (defScope s_state_at) .none kV7 dc7 pm7 an7 cd7 ct7), sl7⟩) (c7 : PySem.W.codeIn K cd7 "state_at" = true) (k7 : PySem.W.keepIn K (.ref f7) = true)
    {f8 : Addr} {od8 an8 : Option Addr} {sl8 : Array (Option Value)} {oc8 kV8 dc8 pm8 cd8 ct8 : Value}
    (a8 : PySem.W.nsIn K mainGlobals "all_stretches" = some (some (.ref f8))) (l8 : K.lookup f8 = some ⟨oc8, od8, .func (PySem.W.fnOf "all_stretches" "all_stretches" (defArgs s_all_stretches) (defBody s_all_stretches) (defScope s_all_stretches) .none kV8 dc8 pm8 an8 cd8 ct8), sl8⟩) (c8 : PySem.W.codeIn K cd8 "all_stretches" = true) (k8 : PySem.W.keepIn K (.ref f8) = true)
    {f9 : Addr} {od9 an9 : Option Addr} {sl9 : Array (Option Value)} {oc9 kV9 dc9 pm9 cd9 ct9 : Value}
    (a9 : PySem.W.nsIn K mainGlobals "stretches" = some (some (.ref f9))) (l9 : K.lookup f9 = some ⟨oc9, od9, .func (PySem.W.fnOf "stretches" "stretches" (defArgs s_stretches) (defBody s_stretches) (defScope s_stretches) .none kV9 dc9 pm9 an9 cd9 ct9), sl9⟩) (c9 : PySem.W.codeIn K cd9 "stretches" = true) (k9 : PySem.W.keepIn K (.ref f9) = true)
    {f10 : Addr} {od10 an10 : Option Addr} {sl10 : Array (Option Value)} {oc10 kV10 dc10 pm10 cd10 ct10 : Value}
    (a10 : PySem.W.nsIn K mainGlobals "_law_box" = some (some (.ref f10))) (l10 : K.lookup f10 = some ⟨oc10, od10, .func (PySem.W.fnOf "_law_box" "_law_box" (defArgs s_law_box) (defBody s_law_box) (defScope s_law_box) .none kV10 dc10 pm10 an10 cd10 ct10), sl10⟩) (c10 : PySem.W.codeIn K cd10 "_law_box" = true) (k10 : PySem.W.keepIn K (.ref f10) = true)
    {f11 : Addr} {od11 an11 : Option Addr} {sl11 : Array (Option Value)} {oc11 kV11 dc11 pm11 cd11 ct11 : Value}
    (a11 : PySem.W.nsIn K mainGlobals "_law_take" = some (some (.ref f11))) (l11 : K.lookup f11 = some ⟨oc11, od11, .func (PySem.W.fnOf "_law_take" "_law_take" (defArgs s_law_take) (defBody s_law_take) (defScope s_law_take) .none kV11 dc11 pm11 an11 cd11 ct11), sl11⟩) (c11 : PySem.W.codeIn K cd11 "_law_take" = true) (k11 : PySem.W.keepIn K (.ref f11) = true)
    {f12 : Addr} {od12 an12 : Option Addr} {sl12 : Array (Option Value)} {oc12 kV12 dc12 pm12 cd12 ct12 : Value}
    (a12 : PySem.W.nsIn K mainGlobals "_law_names" = some (some (.ref f12))) (l12 : K.lookup f12 = some ⟨oc12, od12, .func (PySem.W.fnOf "_law_names" "_law_names" (defArgs s_law_names) (defBody s_law_names) (defScope s_law_names) .none kV12 dc12 pm12 an12 cd12 ct12), sl12⟩) (c12 : PySem.W.codeIn K cd12 "_law_names" = true) (k12 : PySem.W.keepIn K (.ref f12) = true)
    {f13 : Addr} {od13 an13 : Option Addr} {sl13 : Array (Option Value)} {oc13 kV13 dc13 pm13 cd13 ct13 : Value}
    (a13 : PySem.W.nsIn K mainGlobals "_law_palette" = some (some (.ref f13))) (l13 : K.lookup f13 = some ⟨oc13, od13, .func (PySem.W.fnOf "_law_palette" "_law_palette" (defArgs s_law_palette) (defBody s_law_palette) (defScope s_law_palette) .none kV13 dc13 pm13 an13 cd13 ct13), sl13⟩) (c13 : PySem.W.codeIn K cd13 "_law_palette" = true) (k13 : PySem.W.keepIn K (.ref f13) = true)
    {f14 : Addr} {od14 an14 : Option Addr} {sl14 : Array (Option Value)} {oc14 kV14 dc14 pm14 cd14 ct14 : Value}
    (a14 : PySem.W.nsIn K mainGlobals "_law_wash" = some (some (.ref f14))) (l14 : K.lookup f14 = some ⟨oc14, od14, .func (PySem.W.fnOf "_law_wash" "_law_wash" (defArgs s_law_wash) (defBody s_law_wash) (defScope s_law_wash) .none kV14 dc14 pm14 an14 cd14 ct14), sl14⟩) (c14 : PySem.W.codeIn K cd14 "_law_wash" = true) (k14 : PySem.W.keepIn K (.ref f14) = true)
    {f15 : Addr} {od15 an15 : Option Addr} {sl15 : Array (Option Value)} {oc15 kV15 dc15 pm15 cd15 ct15 : Value}
    (a15 : PySem.W.nsIn K mainGlobals "_law_hours" = some (some (.ref f15))) (l15 : K.lookup f15 = some ⟨oc15, od15, .func (PySem.W.fnOf "_law_hours" "_law_hours" (defArgs s_law_hours) (defBody s_law_hours) (defScope s_law_hours) .none kV15 dc15 pm15 an15 cd15 ct15), sl15⟩) (c15 : PySem.W.codeIn K cd15 "_law_hours" = true) (k15 : PySem.W.keepIn K (.ref f15) = true)
    {f16 : Addr} {od16 an16 : Option Addr} {sl16 : Array (Option Value)} {oc16 kV16 dc16 pm16 cd16 ct16 : Value}
    (a16 : PySem.W.nsIn K mainGlobals "_law_turns" = some (some (.ref f16))) (l16 : K.lookup f16 = some ⟨oc16, od16, .func (PySem.W.fnOf "_law_turns" "_law_turns" (defArgs s_law_turns) (defBody s_law_turns) (defScope s_law_turns) .none kV16 dc16 pm16 an16 cd16 ct16), sl16⟩) (c16 : PySem.W.codeIn K cd16 "_law_turns" = true) (k16 : PySem.W.keepIn K (.ref f16) = true)
    {f17 : Addr} {od17 an17 : Option Addr} {sl17 : Array (Option Value)} {oc17 kV17 dc17 pm17 cd17 ct17 : Value}
    (a17 : PySem.W.nsIn K mainGlobals "_law_same" = some (some (.ref f17))) (l17 : K.lookup f17 = some ⟨oc17, od17, .func (PySem.W.fnOf "_law_same" "_law_same" (defArgs s_law_same) (defBody s_law_same) (defScope s_law_same) .none kV17 dc17 pm17 an17 cd17 ct17), sl17⟩) (c17 : PySem.W.codeIn K cd17 "_law_same" = true) (k17 : PySem.W.keepIn K (.ref f17) = true)
    {f18 : Addr} {od18 an18 : Option Addr} {sl18 : Array (Option Value)} {oc18 kV18 dc18 pm18 cd18 ct18 : Value}
    (a18 : PySem.W.nsIn K mainGlobals "_law_edges" = some (some (.ref f18))) (l18 : K.lookup f18 = some ⟨oc18, od18, .func (PySem.W.fnOf "_law_edges" "_law_edges" (defArgs s_law_edges) (defBody s_law_edges) (defScope s_law_edges) .none kV18 dc18 pm18 an18 cd18 ct18), sl18⟩) (c18 : PySem.W.codeIn K cd18 "_law_edges" = true) (k18 : PySem.W.keepIn K (.ref f18) = true)
    {f19 : Addr} {od19 an19 : Option Addr} {sl19 : Array (Option Value)} {oc19 kV19 dc19 pm19 cd19 ct19 : Value}
    (a19 : PySem.W.nsIn K mainGlobals "_law_by_hours" = some (some (.ref f19))) (l19 : K.lookup f19 = some ⟨oc19, od19, .func (PySem.W.fnOf "_law_by_hours" "_law_by_hours" (defArgs s_law_by_hours) (defBody s_law_by_hours) (defScope s_law_by_hours) .none kV19 dc19 pm19 an19 cd19 ct19), sl19⟩) (c19 : PySem.W.codeIn K cd19 "_law_by_hours" = true) (k19 : PySem.W.keepIn K (.ref f19) = true)
    {f20 : Addr} {od20 an20 : Option Addr} {sl20 : Array (Option Value)} {oc20 kV20 dc20 pm20 cd20 ct20 : Value}
    (a20 : PySem.W.nsIn K mainGlobals "_law_whole_right" = some (some (.ref f20))) (l20 : K.lookup f20 = some ⟨oc20, od20, .func (PySem.W.fnOf "_law_whole_right" "_law_whole_right" (defArgs s_law_whole_right) (defBody s_law_whole_right) (defScope s_law_whole_right) .none kV20 dc20 pm20 an20 cd20 ct20), sl20⟩) (c20 : PySem.W.codeIn K cd20 "_law_whole_right" = true) (k20 : PySem.W.keepIn K (.ref f20) = true)
    {f21 : Addr} {od21 an21 : Option Addr} {sl21 : Array (Option Value)} {oc21 kV21 dc21 pm21 cd21 ct21 : Value}
    (a21 : PySem.W.nsIn K mainGlobals "_law_right" = some (some (.ref f21))) (l21 : K.lookup f21 = some ⟨oc21, od21, .func (PySem.W.fnOf "_law_right" "_law_right" (defArgs s_law_right) (defBody s_law_right) (defScope s_law_right) .none kV21 dc21 pm21 an21 cd21 ct21), sl21⟩) (c21 : PySem.W.codeIn K cd21 "_law_right" = true) (k21 : PySem.W.keepIn K (.ref f21) = true)
    {f22 : Addr} {od22 an22 : Option Addr} {sl22 : Array (Option Value)} {oc22 kV22 dc22 pm22 cd22 ct22 : Value}
    (a22 : PySem.W.nsIn K mainGlobals "law" = some (some (.ref f22))) (l22 : K.lookup f22 = some ⟨oc22, od22, .func (PySem.W.fnOf "law" "law" (defArgs s_law) (defBody s_law) (defScope s_law) .none kV22 dc22 pm22 an22 cd22 ct22), sl22⟩) (c22 : PySem.W.codeIn K cd22 "law" = true) (k22 : PySem.W.keepIn K (.ref f22) = true)
    (z0 : PySem.W.nsIn K mainGlobals "abs" = some none)
    (z1 : PySem.W.nsIn K mainGlobals "all" = some none)
    (z2 : PySem.W.nsIn K mainGlobals "bool" = some none)
    (z3 : PySem.W.nsIn K mainGlobals "enumerate" = some none)
    (z4 : PySem.W.nsIn K mainGlobals "int" = some none)
    (z5 : PySem.W.nsIn K mainGlobals "isinstance" = some none)
    (z6 : PySem.W.nsIn K mainGlobals "len" = some none)
    (z7 : PySem.W.nsIn K mainGlobals "list" = some none)
    (z8 : PySem.W.nsIn K mainGlobals "max" = some none)
    (z9 : PySem.W.nsIn K mainGlobals "min" = some none)
    (z10 : PySem.W.nsIn K mainGlobals "range" = some none)
    (z11 : PySem.W.nsIn K mainGlobals "repr" = some none)
    (z12 : PySem.W.nsIn K mainGlobals "set" = some none)
    (z13 : PySem.W.nsIn K mainGlobals "sorted" = some none)
    (z14 : PySem.W.nsIn K mainGlobals "str" = some none)
    (z15 : PySem.W.nsIn K mainGlobals "tuple" = some none)
    (z16 : PySem.W.nsIn K mainGlobals "zip" = some none)
    {gu0 : Value} (gx0 : PySem.W.nsIn K mainGlobals "OUT" = some (some gu0)) (qx0 : RelV (.str "out") gu0) :
    ∀ base : Heap, K.In base → base.Ns mainGlobals mg → ∃ fd : FuncData, Binds K fd f_law.ps [] ∧ FnG l.prog w K mg base k fa fd f_law.ps (spF K (callD fns wf k) 22 f_law) := by
  have hb : ∀ x, x ∈ blts → mg x = none := fun x hx => by
    simp only [blts, List.mem_cons, List.not_mem_nil, or_false] at hx
    rcases hx with rfl | rfl | rfl | rfl | rfl | rfl | rfl | rfl | rfl | rfl | rfl | rfl | rfl | rfl | rfl | rfl | rfl
    · exact PySem.W.mg_none_of X G z0
    · exact PySem.W.mg_none_of X G z1
    · exact PySem.W.mg_none_of X G z2
    · exact PySem.W.mg_none_of X G z3
    · exact PySem.W.mg_none_of X G z4
    · exact PySem.W.mg_none_of X G z5
    · exact PySem.W.mg_none_of X G z6
    · exact PySem.W.mg_none_of X G z7
    · exact PySem.W.mg_none_of X G z8
    · exact PySem.W.mg_none_of X G z9
    · exact PySem.W.mg_none_of X G z10
    · exact PySem.W.mg_none_of X G z11
    · exact PySem.W.mg_none_of X G z12
    · exact PySem.W.mg_none_of X G z13
    · exact PySem.W.mg_none_of X G z14
    · exact PySem.W.mg_none_of X G z15
    · exact PySem.W.mg_none_of X G z16
  have hg : ∀ x d, (x, d) ∈ gls → GlobOk K mg x d := fun x d hx => by
    simp only [gls, List.mem_cons, List.not_mem_nil, or_false, Prod.mk.injEq] at hx
    obtain ⟨rfl, rfl⟩ := hx
    · exact ⟨_, _, PySem.W.mg_of X G gx0, qx0, fun _ _ => ⟨rfl, rfl, by decide +kernel⟩⟩
  have D : ∀ (base : Heap) (j : Nat) (g : Fn), fns[j]? = some g → ∃ st, DefAt l.prog w K mg base fns wf g st := fun base j g hj => by
    match j, hj with
    | 0, hj =>
      cases hj
      exact ⟨s_colour_row, ⟨_, _, PySem.W.mg_of X G a0, fun_of l0 c0 k0, binds_0 (fun_of l0 c0 k0) (ps := f_colour_row.ps) fun _ _ _ _ _ _ us hl => match us, hl with | [_, _], _ => rfl, kwok_of rfl kwall_nil⟩, sc_colour_row, io_colour_row, by decide +kernel, body_of c_colour_row sc_colour_row.nd hb dflOk hg⟩
    | 1, hj =>
      cases hj
      exact ⟨s_wash_for, ⟨_, _, PySem.W.mg_of X G a1, fun_of l1 c1 k1, binds_0 (fun_of l1 c1 k1) (ps := f_wash_for.ps) fun _ _ _ _ _ _ us hl => match us, hl with | [_, _, _], _ => rfl, kwok_of rfl kwall_nil⟩, sc_wash_for, io_wash_for, by decide +kernel, body_of c_wash_for sc_wash_for.nd hb dflOk hg⟩
    | 2, hj =>
      cases hj
      exact ⟨s_ready_at, ⟨_, _, PySem.W.mg_of X G a2, fun_ofD l2 c2 k2 d2 e2 v2 (by decide), fun m hm => by
        have hm : m ≤ 1 := hm
        match m, hm with
        | 0, _ => exact binds_d (fun_ofD l2 c2 k2 d2 e2 v2 (by decide)) 3 1 (by decide) rfl fun _ _ _ _ _ _ _ us its h1 h2 => match us, its, h1, h2 with | [_, _, _], [_], _, _ => ⟨_, rfl, rfl⟩
        | 1, _ => exact binds_d (fun_ofD l2 c2 k2 d2 e2 v2 (by decide)) 2 0 (by decide) rfl fun _ _ _ _ _ _ _ us its h1 h2 => match us, its, h1, h2 with | [_, _], [_], _, _ => ⟨_, rfl, rfl⟩
        | n + 2, h => exact absurd h (by omega), kwok_of rfl kwall_nil⟩, sc_ready_at, io_ready_at, by decide +kernel, body_of c_ready_at sc_ready_at.nd hb dflOk hg⟩
    | 3, hj =>
      cases hj
      exact ⟨s_word_ends, ⟨_, _, PySem.W.mg_of X G a3, fun_of l3 c3 k3, binds_0 (fun_of l3 c3 k3) (ps := f_word_ends.ps) fun _ _ _ _ _ _ us hl => match us, hl with | [_, _, _], _ => rfl, kwok_of rfl kwall_nil⟩, sc_word_ends, io_word_ends, by decide +kernel, body_of c_word_ends sc_word_ends.nd hb dflOk hg⟩
    | 4, hj =>
      cases hj
      exact ⟨s_word_by, ⟨_, _, PySem.W.mg_of X G a4, fun_of l4 c4 k4, binds_0 (fun_of l4 c4 k4) (ps := f_word_by.ps) fun _ _ _ _ _ _ us hl => match us, hl with | [_, _, _, _], _ => rfl, kwok_of rfl kwall_nil⟩, sc_word_by, io_word_by, by decide +kernel, body_of c_word_by sc_word_by.nd hb dflOk hg⟩
    | 5, hj =>
      cases hj
      exact ⟨s_wash_behind, ⟨_, _, PySem.W.mg_of X G a5, fun_of l5 c5 k5, binds_0 (fun_of l5 c5 k5) (ps := f_wash_behind.ps) fun _ _ _ _ _ _ us hl => match us, hl with | [_, _, _], _ => rfl, kwok_of rfl kwall_nil⟩, sc_wash_behind, io_wash_behind, by decide +kernel, body_of c_wash_behind sc_wash_behind.nd hb dflOk hg⟩
    | 6, hj =>
      cases hj
      exact ⟨s_last_filled, ⟨_, _, PySem.W.mg_of X G a6, fun_of l6 c6 k6, binds_0 (fun_of l6 c6 k6) (ps := f_last_filled.ps) fun _ _ _ _ _ _ us hl => match us, hl with | [_, _], _ => rfl, kwok_of rfl kwall_nil⟩, sc_last_filled, io_last_filled, by decide +kernel, body_of c_last_filled sc_last_filled.nd hb dflOk hg⟩
    | 7, hj =>
      cases hj
      exact ⟨s_state_at, ⟨_, _, PySem.W.mg_of X G a7, fun_of l7 c7 k7, binds_0 (fun_of l7 c7 k7) (ps := f_state_at.ps) fun _ _ _ _ _ _ us hl => match us, hl with | [_, _, _], _ => rfl, kwok_of rfl kwall_nil⟩, sc_state_at, io_state_at, by decide +kernel, body_of c_state_at sc_state_at.nd hb dflOk hg⟩
    | 8, hj =>
      cases hj
      exact ⟨s_all_stretches, ⟨_, _, PySem.W.mg_of X G a8, fun_of l8 c8 k8, binds_0 (fun_of l8 c8 k8) (ps := f_all_stretches.ps) fun _ _ _ _ _ _ us hl => match us, hl with | [_, _, _], _ => rfl, kwok_of rfl kwall_nil⟩, sc_all_stretches, io_all_stretches, by decide +kernel, body_of c_all_stretches sc_all_stretches.nd hb dflOk hg⟩
    | 9, hj =>
      cases hj
      exact ⟨s_stretches, ⟨_, _, PySem.W.mg_of X G a9, fun_of l9 c9 k9, binds_0 (fun_of l9 c9 k9) (ps := f_stretches.ps) fun _ _ _ _ _ _ us hl => match us, hl with | [_, _, _, _], _ => rfl, kwok_of rfl kwall_nil⟩, sc_stretches, io_stretches, by decide +kernel, body_of c_stretches sc_stretches.nd hb dflOk hg⟩
    | 10, hj =>
      cases hj
      exact ⟨s_law_box, ⟨_, _, PySem.W.mg_of X G a10, fun_of l10 c10 k10, binds_0 (fun_of l10 c10 k10) (ps := f_law_box.ps) fun _ _ _ _ _ _ us hl => match us, hl with | [_, _], _ => rfl, kwok_of rfl kwall_nil⟩, sc_law_box, io_law_box, by decide +kernel, body_of c_law_box sc_law_box.nd hb dflOk hg⟩
    | 11, hj =>
      cases hj
      exact ⟨s_law_take, ⟨_, _, PySem.W.mg_of X G a11, fun_of l11 c11 k11, binds_0 (fun_of l11 c11 k11) (ps := f_law_take.ps) fun _ _ _ _ _ _ us hl => match us, hl with | [_, _], _ => rfl, kwok_of rfl kwall_nil⟩, sc_law_take, io_law_take, by decide +kernel, body_of c_law_take sc_law_take.nd hb dflOk hg⟩
    | 12, hj =>
      cases hj
      exact ⟨s_law_names, ⟨_, _, PySem.W.mg_of X G a12, fun_of l12 c12 k12, binds_0 (fun_of l12 c12 k12) (ps := f_law_names.ps) fun _ _ _ _ _ _ us hl => match us, hl with | [_, _], _ => rfl, kwok_of rfl kwall_nil⟩, sc_law_names, io_law_names, by decide +kernel, body_of c_law_names sc_law_names.nd hb dflOk hg⟩
    | 13, hj =>
      cases hj
      exact ⟨s_law_palette, ⟨_, _, PySem.W.mg_of X G a13, fun_of l13 c13 k13, binds_0 (fun_of l13 c13 k13) (ps := f_law_palette.ps) fun _ _ _ _ _ _ us hl => match us, hl with | [_, _], _ => rfl, kwok_of rfl kwall_nil⟩, sc_law_palette, io_law_palette, by decide +kernel, body_of c_law_palette sc_law_palette.nd hb dflOk hg⟩
    | 14, hj =>
      cases hj
      exact ⟨s_law_wash, ⟨_, _, PySem.W.mg_of X G a14, fun_of l14 c14 k14, binds_0 (fun_of l14 c14 k14) (ps := f_law_wash.ps) fun _ _ _ _ _ _ us hl => match us, hl with | [_, _, _], _ => rfl, kwok_of rfl kwall_nil⟩, sc_law_wash, io_law_wash, by decide +kernel, body_of c_law_wash sc_law_wash.nd hb dflOk hg⟩
    | 15, hj =>
      cases hj
      exact ⟨s_law_hours, ⟨_, _, PySem.W.mg_of X G a15, fun_of l15 c15 k15, binds_0 (fun_of l15 c15 k15) (ps := f_law_hours.ps) fun _ _ _ _ _ _ us hl => match us, hl with | [_, _], _ => rfl, kwok_of rfl kwall_nil⟩, sc_law_hours, io_law_hours, by decide +kernel, body_of c_law_hours sc_law_hours.nd hb dflOk hg⟩
    | 16, hj =>
      cases hj
      exact ⟨s_law_turns, ⟨_, _, PySem.W.mg_of X G a16, fun_of l16 c16 k16, binds_0 (fun_of l16 c16 k16) (ps := f_law_turns.ps) fun _ _ _ _ _ _ us hl => match us, hl with | [_, _, _], _ => rfl, kwok_of rfl kwall_nil⟩, sc_law_turns, io_law_turns, by decide +kernel, body_of c_law_turns sc_law_turns.nd hb dflOk hg⟩
    | 17, hj =>
      cases hj
      exact ⟨s_law_same, ⟨_, _, PySem.W.mg_of X G a17, fun_of l17 c17 k17, binds_0 (fun_of l17 c17 k17) (ps := f_law_same.ps) fun _ _ _ _ _ _ us hl => match us, hl with | [_, _], _ => rfl, kwok_of rfl kwall_nil⟩, sc_law_same, io_law_same, by decide +kernel, body_of c_law_same sc_law_same.nd hb dflOk hg⟩
    | 18, hj =>
      cases hj
      exact ⟨s_law_edges, ⟨_, _, PySem.W.mg_of X G a18, fun_of l18 c18 k18, binds_0 (fun_of l18 c18 k18) (ps := f_law_edges.ps) fun _ _ _ _ _ _ us hl => match us, hl with | [_, _], _ => rfl, kwok_of rfl kwall_nil⟩, sc_law_edges, io_law_edges, by decide +kernel, body_of c_law_edges sc_law_edges.nd hb dflOk hg⟩
    | 19, hj =>
      cases hj
      exact ⟨s_law_by_hours, ⟨_, _, PySem.W.mg_of X G a19, fun_of l19 c19 k19, binds_0 (fun_of l19 c19 k19) (ps := f_law_by_hours.ps) fun _ _ _ _ _ _ us hl => match us, hl with | [_, _, _, _], _ => rfl, kwok_of rfl kwall_nil⟩, sc_law_by_hours, io_law_by_hours, by decide +kernel, body_of c_law_by_hours sc_law_by_hours.nd hb dflOk hg⟩
    | 20, hj =>
      cases hj
      exact ⟨s_law_whole_right, ⟨_, _, PySem.W.mg_of X G a20, fun_of l20 c20 k20, binds_0 (fun_of l20 c20 k20) (ps := f_law_whole_right.ps) fun _ _ _ _ _ _ us hl => match us, hl with | [_, _, _, _], _ => rfl, kwok_of rfl kwall_nil⟩, sc_law_whole_right, io_law_whole_right, by decide +kernel, body_of c_law_whole_right sc_law_whole_right.nd hb dflOk hg⟩
    | 21, hj =>
      cases hj
      exact ⟨s_law_right, ⟨_, _, PySem.W.mg_of X G a21, fun_of l21 c21 k21, binds_0 (fun_of l21 c21 k21) (ps := f_law_right.ps) fun _ _ _ _ _ _ us hl => match us, hl with | [_], _ => rfl, kwok_of rfl kwall_nil⟩, sc_law_right, io_law_right, by decide +kernel, body_of c_law_right sc_law_right.nd hb dflOk hg⟩
    | 22, hj =>
      cases hj
      exact ⟨s_law, ⟨_, _, PySem.W.mg_of X G a22, fun_of l22 c22 k22, binds_0 (fun_of l22 c22 k22) (ps := f_law.ps) fun _ _ _ _ _ _ us hl => match us, hl with | [_], _ => rfl, kwok_of rfl kwall_nil⟩, sc_law, io_law, by decide +kernel, body_of c_law sc_law.nd hb dflOk hg⟩
    | 23, hj =>
      cases hj
      exact ⟨s_law_right, ⟨_, _, PySem.W.mg_of X G a21, fun_of l21 c21 k21, binds_0 (fun_of l21 c21 k21) (ps := f_law_right.ps) fun _ _ _ _ _ _ us hl => match us, hl with | [_], _ => rfl, kwok_of rfl kwall_nil⟩, sc_law_right_v23, io_law_right_v23, by decide +kernel, body_of c_law_right_v23 sc_law_right_v23.nd hb dflOk hg⟩
    | n + 24, hj => cases hj
  intro base _ _
  exact run_law (calls_ok (D base) k 22 f_law rfl) rfl hfa
end Lawk13

namespace Lawk13
open PySem L2 Mn
def bxD (a b c : Int) : D := .lst true [.int a, .int b, .int c]
/-- a box that at most b numbers were drawn from by mixing -/
def St (b : Nat) (s : D) : Prop := ∃ a d c : Int, s = bxD a d c ∧ 0 ≤ d ∧ d ≤ 2 ^ 62 ∧ 0 ≤ c ∧ c ≤ b
theorem St.nf {b : Nat} {s : D} (h : St b s) : nfm s = true := by obtain ⟨a, d, c, rfl, _⟩ := h; simp [bxD]
theorem St.up {b c : Nat} {s : D} (h : St b s) (hc : b ≤ c) : St c s := by
  obtain ⟨a, d, e, h0, h1, h2, h3, h4⟩ := h
  exact ⟨a, d, e, h0, h1, h2, h3, by omega⟩
theorem sm_mod {x k : Int} (h : 0 < k) (h2 : k ≤ 18446744073709551616) : sm64 (x % k) = true := decide_eq_true ⟨by have := Int.emod_nonneg x (show k ≠ 0 by omega); omega, by have := Int.emod_lt_of_pos x h; omega⟩
theorem log_m {m : Int} (h : 1 ≤ m) (h2 : m < 2 ^ 30) : m.natAbs.log2 < 9000 := by
  have h1 := log2_lt (i := m.natAbs) (by omega)
  omega
theorem ix3_0 : ixN 3 0 = some 0 := by decide
theorem ix3_2 : ixN 3 2 = some 2 := by decide
theorem take {n wf b : Nat} {m : Int} {s : D} (hn : 1 ≤ n) (hs : St b s) (hb : b ≤ 1000000) (hm : 1 ≤ m) (hm2 : m < 2 ^ 30) :
    ∃ d s', callD fns wf n 11 [s, .int m] = some (.int d, [s']) ∧ St (b + 1) s' ∧ nfm s' = true ∧ 0 ≤ d ∧ d < m := by
  obtain ⟨k, rfl⟩ : ∃ k, n = k + 1 := ⟨n - 1, by omega⟩
  obtain ⟨a, e, c, rfl, e0, e1, c0, c1⟩ := hs
  rw [callD_at (f := f_law_take) rfl rfl]
  show ∃ d s', runF f_law_take (denSs _ _ b_law_take [some (bxD a e c), some (.int m), none, none]) = _ ∧ _
  have l1 := log_m hm hm2
  have hm0 : 0 < m := by omega
  have s1 : sm64 7919 = true := by decide
  have s2 : sm64 39373 = true := by decide
  have s4 : ∀ x : Int, sm64 (x % 2147483647) = true := fun x => sm_mod (by decide) (by decide)
  have l3 : Nat.log2 64 < 9000 := by decide +kernel
  unfold b_law_take bxD
  by_cases ha : 0 < a
  · refine ⟨a % m, bxD (a / m) e c, ?_, ⟨_, _, _, rfl, e0, e1, c0, by omega⟩, by simp [bxD], Int.emod_nonneg _ (by omega), Int.emod_lt_of_pos _ hm0⟩
    simp [ha, hm0, l1, ix3_0, f_law_take, bxD, Pth.slot]
  · have hp : (e + 39373 * (c + 1)).natAbs < 18446744073709551616 := by omega
    refine ⟨((e + 39373 * (c + 1)) ^ 5 % 2147483647 * ((e + 39373 * (c + 1)) ^ 5 % 2147483647 % 40009 + 7) + (c + 1) * 7919) % 2147483629 / 64 % m, bxD a e (c + 1), ?_, ⟨_, _, _, rfl, e0, e1, by omega, by omega⟩, by simp [bxD], Int.emod_nonneg _ (by omega), Int.emod_lt_of_pos _ hm0⟩
    simp [ha, hm0, ix3_2, f_law_take, bxD, Pth.slot, s1, s2, s4, l3, hp]
theorem box_ {k wf : Nat} {ns : List Int} {i : Nat} (hk : 1 ≤ k) (hi : i < 100) (hl : ns.length ≤ 63) : ∃ s, callD fns wf k 10 [.scr (ns.map .int), .int i] = some (s, []) ∧ St 0 s := by
  obtain ⟨k, rfl⟩ : ∃ j, k = j + 1 := ⟨k - 1, by omega⟩
  rw [callD_at (f := f_law_box) rfl rfl]
  show ∃ s, runF f_law_box (denSs _ _ b_law_box [some (.scr (ns.map .int)), some (.int i), none]) = _ ∧ _
  unfold b_law_box
  have s1 : sm64 39373 = true := by decide
  have key : ∃ c : Int, (if (i : Int) < ns.length then atI (ns.map D.int) i = some (.int c) else c = 0) := by
    by_cases h : (i : Int) < ns.length
    · obtain ⟨c, e1, hc⟩ := atI_mem (zs := ns.map D.int) (i := (i : Int)) (by omega) (by simpa using h)
      obtain ⟨c, _, rfl⟩ := List.mem_map.mp hc
      exact ⟨c, by rw [if_pos h]; exact e1⟩
    · exact ⟨0, by rw [if_neg h]⟩
  obtain ⟨c, hc⟩ := key
  have q1 := Int.emod_nonneg c (show (2305843009213693951 : Int) ≠ 0 by decide)
  have q2 := Int.emod_lt_of_pos c (show (0 : Int) < 2305843009213693951 by decide)
  have q3 : 0 ≤ c % 2305843009213693951 + 39373 * i + 17 ∧ c % 2305843009213693951 + 39373 * i + 17 ≤ 2 ^ 62 := by omega
  by_cases hh : 1000000000000000000 ≤ (if c < 0 then -c else c)
  · have s2 : sm64 1 = true := by decide
    refine ⟨bxD (if c < 0 then -c else c) (c % 2305843009213693951 + 39373 * i + 17) 0, ?_, _, _, _, rfl, q3.1, q3.2, by omega, by omega⟩
    by_cases h : (i : Int) < ns.length
    · rw [if_pos h] at hc
      have h' : i < ns.length := by omega
      simp [hc, h', s1, s2, hh, f_law_box, bxD, sizeLine]
    · rw [if_neg h] at hc
      subst hc
      exact absurd hh (by decide)
  · have s2 : sm64 0 = true := by decide
    refine ⟨bxD 0 (c % 2305843009213693951 + 39373 * i + 17) 0, ?_, _, _, _, rfl, q3.1, q3.2, by omega, by omega⟩
    by_cases h : (i : Int) < ns.length
    · rw [if_pos h] at hc
      have h' : i < ns.length := by omega
      simp [hc, h', s1, s2, hh, f_law_box, bxD, sizeLine]
    · rw [if_neg h] at hc
      subst hc
      have h' : ¬ i < ns.length := by omega
      simp [h', s1, s2, f_law_box, bxD, sizeLine]
end Lawk13

namespace Lawk13
open PySem L2 Mn
/-! letters -/
def abcL : List Nat := (Str.ofString "abcdefghijklmnopqrstuvwxyz").cps.toList
theorem abc_len : (Str.ofString "abcdefghijklmnopqrstuvwxyz").length ≤ 16777216 := by decide +kernel
def lt_ (i : Int) : Nat := 97 + i.toNat
theorem abc_at : ∀ i, i < 26 → abcL[i]? = some (97 + i) := by
  have h : ((List.range 26).all fun i => decide (abcL[i]? = some (97 + i))) = true := by decide +kernel
  intro i hi
  exact of_decide_eq_true (List.all_eq_true.mp h i (List.mem_range.mpr hi))
theorem letter_at {i : Int} (h1 : 0 ≤ i) (h2 : i < 26) : atI (Str.ofString "abcdefghijklmnopqrstuvwxyz").cps.toList i = some (lt_ i) := by
  have := Mn.atI_nat (abc_at i.toNat (by omega))
  rw [show ((i.toNat : Nat) : Int) = i by omega] at this
  exact this
def oneS (i : Int) : Str := ⟨#[lt_ i]⟩
theorem oneS_ok {i : Int} (h1 : 0 ≤ i) (h2 : i < 26) : NmOk 1 (oneS i) := ⟨Nat.le_refl _, fun d hd => by simp [oneS, lt_] at hd; omega⟩
theorem join_ok : ∀ {xs : List Str}, (∀ x, x ∈ xs → NmOk 1 x) → NmOk xs.length (Str.join "" xs) := fun h => NmOk.join h
theorem letters_ {n wf b : Nat} {d : Int} {s : D} {v1 v3 v4 v5 v6 v7 v8 v9 v10 v11 v12 v13 v14 : Option D} (hn : 1 ≤ n) (hs : St b s) (hb : b ≤ 900000) (h0 : 0 ≤ d) (h8 : d < 4) :
    ∃ (zs : List Str) (s' : D) (w14 : Option D), lcL [14] true (lcB (callD fns wf n) (.nm 14) .no (.ix true (.nm 2) (.call true 11 (.io 0 (.cons true (.cst (.int 26)) .nil))))) (rngL 0 d.toNat) [some s, v1, some (.str "abcdefghijklmnopqrstuvwxyz"), v3, v4, v5, v6, v7, v8, v9, v10, v11, v12, v13, v14] =
      .ok (zs.map .str) [some s', v1, some (.str "abcdefghijklmnopqrstuvwxyz"), v3, v4, v5, v6, v7, v8, v9, v10, v11, v12, v13, w14] ∧ St (b + 3) s' ∧ nfm s' = true ∧ zs.length ≤ d.toNat ∧ ∀ z, z ∈ zs → NmOk 1 z := by
  obtain ⟨zs, ρ', h1, ⟨s', w14, h2, h3⟩, h4, h5⟩ := lcL_each (own := [14]) (q := true) (body := lcB (callD fns wf n) (.nm 14) .no (.ix true (.nm 2) (.call true 11 (.io 0 (.cons true (.cst (.int 26)) .nil))))) (xs := rngL 0 d.toNat) D.str (NmOk 1) (fun _ => .inl rfl)
    (fun i ρ => ∃ s' w14, St (b + i) s' ∧ ρ = [some s', v1, some (.str "abcdefghijklmnopqrstuvwxyz"), v3, v4, v5, v6, v7, v8, v9, v10, v11, v12, v13, w14])
    (fun i x ρ hx ⟨s1, w, g1, g2⟩ => by
      obtain ⟨rfl, hi⟩ := rngL_get hx
      subst g2
      obtain ⟨c, s2, e, k1, k2, k3, k4⟩ := take (n := n) (wf := wf) (m := 26) hn g1 (by omega) (by omega) (by omega)
      have e2 := letter_at k3 k4
      refine ⟨[some s2, v1, some (.str "abcdefghijklmnopqrstuvwxyz"), v3, v4, v5, v6, v7, v8, v9, v10, v11, v12, v13, some (.int (i : Nat))], ⟨s2, _, k1.up (by omega), rfl⟩, oneS c, ?_, oneS_ok k3 k4⟩
      simp [lcB, wipeS, e, e2, k2, sizeLine, abc_len, oneS]) (ρ := [some s, v1, some (.str "abcdefghijklmnopqrstuvwxyz"), v3, v4, v5, v6, v7, v8, v9, v10, v11, v12, v13, v14]) ⟨s, v14, by simpa using hs, rfl⟩
  rw [rngL_len] at h4 h2
  subst h3
  exact ⟨zs, s', w14, h1, h2.up (by omega), h2.nf, by omega, h5⟩
/-! words -/
def wordsL : List Str := [Str.ofString "never", Str.ofString "at", Str.ofString "undo", Str.ofString "slots", Str.ofString "done", Str.ofString "wash", Str.ofString "pot", Str.ofString "kind", Str.ofString "fill", Str.ofString "gather", Str.ofString "team", Str.ofString "colour"]
theorem words_eq : Txt.split (Str.ofString "never at undo slots done wash pot kind fill gather team colour") (Str.ofString " ") = wordsL := by decide +kernel
theorem words_ok : wordsL.all PyData.strOk = true := by decide +kernel
theorem words_D : mtD .split (.str (Str.ofString "never at undo slots done wash pot kind fill gather team colour")) [.str (Str.ofString " ")] = some (.lst true (wordsL.map .str)) := by
  show (if ((Str.ofString " ").length == 0) = false ∧ (Str.ofString "never at undo slots done wash pot kind fill gather team colour").length + 2 ≤ sizeLine ∧ (Txt.split (Str.ofString "never at undo slots done wash pot kind fill gather team colour") (Str.ofString " ")).all PyData.strOk = true then some (D.lst true ((Txt.split (Str.ofString "never at undo slots done wash pot kind fill gather team colour") (Str.ofString " ")).map D.str)) else none) = _
  rw [words_eq]
  exact if_pos ⟨by decide +kernel, by decide +kernel, words_ok⟩
theorem cut_drop {α : Type} {xs : List α} {i : Nat} : cutL xs (some (i : Int)) none = xs.drop i := by
  unfold cutL
  rw [show HT.sIx xs.length 0 (some (i : Int)) = min i xs.length from HT.sIx_nat _ _ i]
  rw [show HT.sIx xs.length xs.length none = xs.length from rfl]
  by_cases h : i ≤ xs.length
  · rw [Nat.min_eq_left h, List.take_of_length_le (by simp)]
  · rw [Nat.min_eq_right (by omega), List.take_of_length_le (by simp), List.drop_eq_nil_of_le (Nat.le_refl _), List.drop_eq_nil_of_le (by omega)]
theorem cut_take {α : Type} {xs : List α} {i : Nat} : cutL xs none (some (i : Int)) = xs.take i := by
  unfold cutL
  rw [show HT.sIx xs.length xs.length (some (i : Int)) = min i xs.length from HT.sIx_nat _ _ i]
  rw [show HT.sIx xs.length 0 none = 0 from rfl]
  rw [List.drop_zero, Nat.sub_zero]
  by_cases h : i ≤ xs.length
  · rw [Nat.min_eq_left h]
  · rw [Nat.min_eq_right (by omega), List.take_of_length_le (Nat.le_refl _), List.take_of_length_le (by omega)]
def NsOk (nms : List Str) : Prop := (∀ z, z ∈ nms → NmOk 8 z) ∧ nms.Nodup
theorem words_take {f m : Nat} (hf : f < 12) (hm : m ≤ 12) : (((wordsL ++ wordsL).drop f).take m).length = m ∧ NsOk (((wordsL ++ wordsL).drop f).take m) := by
  have h : ((List.range 12).all fun f => (List.range 13).all fun m => decide ((((wordsL ++ wordsL).drop f).take m).length = m) && decide ((((wordsL ++ wordsL).drop f).take m).Nodup)) = true := by decide +kernel
  have h2 := List.all_eq_true.mp (List.all_eq_true.mp h f (List.mem_range.mpr hf)) m (List.mem_range.mpr (by omega))
  have h2 := (Bool.and_eq_true _ _).mp h2
  refine ⟨of_decide_eq_true h2.1, fun z hz => ?_, of_decide_eq_true h2.2⟩
  have hz := List.mem_of_mem_drop (List.mem_of_mem_take hz)
  have h3 : (wordsL.all fun z => decide (z.length ≤ 8) && PyData.strOk z) = true := by decide +kernel
  have h4 := List.all_eq_true.mp h3 z ((List.mem_append.mp hz).elim id id)
  have h4 := (Bool.and_eq_true _ _).mp h4
  exact ⟨of_decide_eq_true h4.1, strOk_list.mp h4.2⟩
/-! steps that meet all -/
def StepOk (c : Int) : Prop := c = 1 ∨ c = 3 ∨ c = 5 ∨ c = 7 ∨ c = 25 ∨ c = 675
theorem step26 {c f : Int} {i j : Nat} (h : StepOk c) (hi : i < 12) (hj : j < 12) (e : (f + c * i) % 26 = (f + c * j) % 26) : i = j := by
  rcases h with rfl | rfl | rfl | rfl | rfl | rfl <;> omega
theorem step676 {c f : Int} {i j : Nat} (h : StepOk c) (hi : i < 12) (hj : j < 12) (e : (f + c * i) % 676 = (f + c * j) % 676) : i = j := by
  rcases h with rfl | rfl | rfl | rfl | rfl | rfl <;> omega
theorem lt_inj {i j : Int} (hi : 0 ≤ i) (hj : 0 ≤ j) (h : lt_ i = lt_ j) : i = j := by unfold lt_ at h; omega
theorem nodup_map {α : Type} {f : Nat → α} {m : Nat} (h : ∀ i j, i < m → j < m → f i = f j → i = j) : ((List.range m).map f).Nodup := by
  refine List.pairwise_map.mpr (List.Pairwise.imp_of_mem (fun {i j} hi hj hij e => ?_) (List.nodup_range (n := m)))
  exact hij (h i j (List.mem_range.mp hi) (List.mem_range.mp hj) e)
end Lawk13

namespace Lawk13
open PySem L2 Mn
theorem cps_one {i : Int} : (oneS i).cps.toList = [lt_ i] := rfl
theorem setS_if {c : Prop} [Decidable c] {a b : Mn.Env} {i : Nat} {d : D} : setS (if c then a else b) i d = if c then setS a i d else setS b i d := by split <;> rfl
def baseS (x t : Str) (v : Int) : Str := x ++ oneS (v / 26) ++ oneS (v % 26) ++ t
theorem base_cps {x t : Str} {v : Int} : (baseS x t v).cps.toList = x.cps.toList ++ (lt_ (v / 26) :: lt_ (v % 26) :: t.cps.toList) := by
  unfold baseS
  rw [cps_app, cps_app, cps_app, cps_one, cps_one]
  simp
theorem base_len {x t : Str} {v : Int} : (baseS x t v).length = x.length + 2 + t.length := by
  unfold baseS
  rw [app_len, app_len, app_len]
  rfl
theorem base_inj {x t : Str} {v u : Int} (hv : 0 ≤ v) (hu : 0 ≤ u) (h : (baseS x t v).cps.toList = (baseS x t u).cps.toList) : v = u := by
  rw [base_cps, base_cps] at h
  have h := List.append_cancel_left h
  injection h with h1 h2
  injection h2 with h2 _
  have := lt_inj (by omega) (by omega) h1
  have := lt_inj (by omega) (by omega) h2
  omega
theorem base_ok {x t : Str} {v : Int} (hx : NmOk 3 x) (ht : NmOk 2 t) (h0 : 0 ≤ v) (h1 : v < 676) : NmOk 7 (baseS x t v) := ((hx.app (oneS_ok (by omega) (by omega))).app (oneS_ok (by omega) (by omega))).app ht
def val_ (f c : Int) (k : Nat) : Int := (f + c * (k : Int)) % 676
def nameF (x t : Str) (f c : Int) (lg : Bool) (k : Nat) : Str := if lg = true ∧ k % 2 = 1 then baseS x t (val_ f c (k - 1)) ++ oneS ((f + (k : Int)) % 26) else baseS x t (val_ f c k)
theorem val_lt {f c : Int} {k : Nat} : 0 ≤ val_ f c k ∧ val_ f c k < 676 := ⟨Int.emod_nonneg _ (by decide), Int.emod_lt_of_pos _ (by decide)⟩
theorem nameF_ok {x t : Str} {f c : Int} {lg : Bool} {k : Nat} (hx : NmOk 3 x) (ht : NmOk 2 t) : NmOk 8 (nameF x t f c lg k) := by
  unfold nameF
  split
  · exact (base_ok hx ht val_lt.1 val_lt.2).app (oneS_ok (Int.emod_nonneg _ (by decide)) (Int.emod_lt_of_pos _ (by decide)))
  · exact (base_ok hx ht val_lt.1 val_lt.2).up (by omega)
theorem nameF_inj {x t : Str} {f c : Int} {lg : Bool} (hc : StepOk c) {i j : Nat} (hi : i < 12) (hj : j < 12) (h : nameF x t f c lg i = nameF x t f c lg j) : i = j := by
  unfold nameF at h
  by_cases h1 : lg = true ∧ i % 2 = 1 <;> by_cases h2 : lg = true ∧ j % 2 = 1
  · rw [if_pos h1, if_pos h2] at h
    have h := congrArg (fun z : Str => z.cps.toList) h
    simp only [cps_app, cps_one] at h
    have h3 := (List.append_inj h (by
      have e1 : ∀ v, (baseS x t v).cps.toList.length = x.length + 2 + t.length := fun v => base_len ▸ Array.length_toList
      rw [e1, e1])).1
    have := step676 hc (by omega) (by omega) (base_inj val_lt.1 val_lt.1 h3)
    omega
  · rw [if_pos h1, if_neg h2] at h
    have h := congrArg Str.length h
    rw [app_len, base_len, base_len] at h
    have : (oneS ((f + (i : Int)) % 26)).length = 1 := rfl
    omega
  · rw [if_neg h1, if_pos h2] at h
    have h := congrArg Str.length h
    rw [app_len, base_len, base_len] at h
    have : (oneS ((f + (j : Int)) % 26)).length = 1 := rfl
    omega
  · rw [if_neg h1, if_neg h2] at h
    exact step676 hc (by omega) (by omega) (base_inj val_lt.1 val_lt.1 (congrArg (fun z : Str => z.cps.toList) h))
theorem atI_app_last {α : Type} {xs : List α} {x : α} : atI (xs ++ [x]) (-1) = some x := by
  unfold atI
  have : ixN (xs ++ [x]).length (-1) = some xs.length := by
    unfold ixN
    simp
    omega
  rw [this]
  simp
end Lawk13

namespace Lawk13
open PySem L2 Mn
def nS0 : S := (.asg (.tup (.cons (.nm 2) (.cons (.nm 3) (.cons (.nm 4) .nil)))) [] (.tup (.cons true (.cst (.str "abcdefghijklmnopqrstuvwxyz")) (.cons true (.call true 11 (.io 0 (.cons true (.cst (.int 676)) .nil))) (.cons true (.call true 11 (.io 0 (.cons true (.cst (.int 5)) .nil))) .nil)))))
def nS1 : S := (.asg (.nm 5) [] (.ix true (.lst (.cons true (.cst (.int 1)) (.cons true (.cst (.int 3)) (.cons true (.cst (.int 5)) (.cons true (.cst (.int 7)) (.cons true (.cst (.int 25)) (.cons true (.cst (.int 675)) .nil))))))) (.call true 11 (.io 0 (.cons true (.cst (.int 6)) .nil)))))
def nS2 : S := (.ite (.cmp .eq true (.nm 4) (.cst (.int 0))) (.cons (.asg (.nm 6) [] (.mt .split true (.cst (.str "never at undo slots done wash pot kind fill gather team colour")) (.cons true (.cst (.str " ")) .nil)))   (.cons (.ret [6, 3, 1] (.sl true true (.sl true true (.bin .add true (.nm 6) (.nm 6)) (.yes (.bin .mod true (.nm 3) (.cst (.int 12)))) .no) .no (.yes (.nm 1))))   .nil)) .nil)
def nS3 : S := (.ite (.cmp .eq true (.nm 4) (.cst (.int 1))) (.cons (.ret [1, 2, 3, 5, 11] (.lc [11] true false (.nm 11) [1] (.rng1 (.nm 1)) .no (.ix true (.nm 2) (.bin .mod true (.bin .add true (.nm 3) (.bin .mul true (.nm 5) (.nm 11))) (.cst (.int 26))))))   .nil) .nil)
def nS4 : S := (.asg (.nm 7) [2] (.mt .join true (.cst (.str "")) (.cons true (.lc [14] true true (.nm 14) [] (.rng1 (.call true 11 (.io 0 (.cons true (.cst (.int 4)) .nil)))) .no (.ix true (.nm 2) (.call true 11 (.io 0 (.cons true (.cst (.int 26)) .nil))))) .nil)))
def nS5 : S := (.asg (.nm 8) [2] (.mt .join true (.cst (.str "")) (.cons true (.lc [14] true true (.nm 14) [] (.rng1 (.call true 11 (.io 0 (.cons true (.cst (.int 3)) .nil)))) .no (.ix true (.nm 2) (.call true 11 (.io 0 (.cons true (.cst (.int 26)) .nil))))) .nil)))
def nS6 : S := (.par [9, 10] [] (.cons true (.call true 11 (.io 0 (.cons true (.cst (.int 2)) .nil))) (.cons true (.lst .nil) .nil)))
def nS7 : S := (.for_ (.nm 11) [1] true (.rng1 (.nm 1)) (.cons (.asg (.nm 12) [3, 5, 11] (.bin .mod true (.bin .add true (.nm 3) (.bin .mul true (.nm 5) (.nm 11))) (.cst (.int 676))))   (.cons (.asg (.nm 13) [7, 2, 12, 8] (.bin .add true (.bin .add true (.bin .add true (.nm 7) (.ix true (.nm 2) (.bin .fdiv true (.nm 12) (.cst (.int 26))))) (.ix true (.nm 2) (.bin .mod true (.nm 12) (.cst (.int 26))))) (.nm 8)))   (.cons (.ite (.and (.cmp .eq true (.nm 9) (.cst (.int 1))) (.one (.cmp .eq true (.bin .mod true (.nm 11) (.cst (.int 2))) (.cst (.int 1))))) (.cons (.asg (.nm 13) [10, 2, 3, 11] (.bin .add true (.ix true (.nm 10) (.neg (.cst (.int 1)))) (.ix true (.nm 2) (.bin .mod true (.bin .add true (.nm 3) (.nm 11)) (.cst (.int 26))))))   .nil) .nil)   (.cons (.ex (.mu .append (.sl 10) (.cons true (.nm 13) .nil)))   .nil)))))
def nS8 : S := (.ret [10] (.mv 10))
theorem nS_split : b_law_names = (.cons nS0 (.cons nS1 (.cons nS2 (.cons nS3 (.cons nS4 (.cons nS5 (.cons nS6 (.cons nS7 (.cons nS8 .nil))))))))) := rfl
theorem step_ {cf : Nat → List D → Option (D × List D)} {wf : Nat} {s : S} {ss : Ss} {ρ ρ' : Mn.Env} (h : denS cf wf s ρ = .nx ρ') : denSs cf wf (.cons s ss) ρ = denSs cf wf ss ρ' := by
  rw [zs_cons, h]
  rfl
theorem ret_ {cf : Nat → List D → Option (D × List D)} {wf : Nat} {s : S} {ss : Ss} {ρ ρ' : Mn.Env} {d : D} (h : denS cf wf s ρ = .rt d ρ') : denSs cf wf (.cons s ss) ρ = .rt d ρ' := by
  rw [zs_cons, h]
  rfl
theorem ite_yes {cf : Nat → List D → Option (D × List D)} {wf : Nat} {c : E} {a b : Ss} {ρ ρ' : Mn.Env} (h : den cf c ρ = .ok (.bl true) ρ') : denS cf wf (.ite c a b) ρ = denSs cf wf a ρ' := by
  rw [z_ite, h]
  rfl
theorem ite_no {cf : Nat → List D → Option (D × List D)} {wf : Nat} {c : E} {a b : Ss} {ρ ρ' : Mn.Env} (h : den cf c ρ = .ok (.bl false) ρ') : denS cf wf (.ite c a b) ρ = denSs cf wf b ρ' := by
  rw [z_ite, h]
  rfl
theorem n0_ {n wf b : Nat} {m : Int} {s : D} (hn : 1 ≤ n) (hs : St b s) (hb : b ≤ 900000) : ∃ (s' : D) (f w : Int), denS (callD fns wf n) wf nS0 [some s, some (.int m), none, none, none, none, none, none, none, none, none, none, none, none, none] = .nx [some s', some (.int m), some (.str "abcdefghijklmnopqrstuvwxyz"), some (.int f), some (.int w), none, none, none, none, none, none, none, none, none, none] ∧ St (b + 2) s' ∧ 0 ≤ f ∧ f < 676 ∧ 0 ≤ w ∧ w < 5 := by
  obtain ⟨f, s1, e1, st1, nf1, p1, q1⟩ := take (n := n) (wf := wf) (m := 676) (by omega) hs (by omega) (by omega) (by omega)
  obtain ⟨w, s2, e2, st2, nf2, p2, q2⟩ := take (n := n) (wf := wf) (m := 5) (by omega) st1 (by omega) (by omega) (by omega)
  exact ⟨s2, f, w, by unfold nS0; simp [e1, nf1, e2, nf2, sizeLine], st2, p1, q1, p2, q2⟩
theorem n1_ {n wf b : Nat} {m f w : Int} {s : D} (hn : 1 ≤ n) (hs : St b s) (hb : b ≤ 900000) : ∃ (s' : D) (c : Int), denS (callD fns wf n) wf nS1 [some s, some (.int m), some (.str "abcdefghijklmnopqrstuvwxyz"), some (.int f), some (.int w), none, none, none, none, none, none, none, none, none, none] = .nx [some s', some (.int m), some (.str "abcdefghijklmnopqrstuvwxyz"), some (.int f), some (.int w), some (.int c), none, none, none, none, none, none, none, none, none] ∧ St (b + 1) s' ∧ StepOk c := by
  obtain ⟨a3, s3, e3, st3, nf3, p3, q3⟩ := take (n := n) (wf := wf) (m := 6) (by omega) hs (by omega) (by omega) (by omega)
  obtain ⟨v3, f3, g3⟩ := atI_mem (zs := [D.int 1, D.int 3, D.int 5, D.int 7, D.int 25, D.int 675]) p3 (by simpa using q3)
  obtain ⟨c, rfl, hc⟩ : ∃ c, v3 = .int c ∧ StepOk c := by
    simp at g3
    unfold StepOk
    rcases g3 with rfl | rfl | rfl | rfl | rfl | rfl
    · exact ⟨1, rfl, by simp⟩
    · exact ⟨3, rfl, by simp⟩
    · exact ⟨5, rfl, by simp⟩
    · exact ⟨7, rfl, by simp⟩
    · exact ⟨25, rfl, by simp⟩
    · exact ⟨675, rfl, by simp⟩
  exact ⟨s3, c, by unfold nS1; simp [e3, nf3, f3, sizeLine], st3, hc⟩
theorem n2_no {n wf : Nat} {m f w c : Int} {s : D} (h : w ≠ 0) : denS (callD fns wf n) wf nS2 [some s, some (.int m), some (.str "abcdefghijklmnopqrstuvwxyz"), some (.int f), some (.int w), some (.int c), none, none, none, none, none, none, none, none, none] = .nx [some s, some (.int m), some (.str "abcdefghijklmnopqrstuvwxyz"), some (.int f), some (.int w), some (.int c), none, none, none, none, none, none, none, none, none] := by
  unfold nS2
  simp [k_eq, beq_false_of_ne h]
theorem n2_yes {n wf fn mn : Nat} {c : Int} {s : D} (h : mn ≤ 12) : ∃ (nms : List Str) (ρ' : Mn.Env), denS (callD fns wf n) wf nS2 [some s, some (.int mn), some (.str "abcdefghijklmnopqrstuvwxyz"), some (.int fn), some (.int 0), some (.int c), none, none, none, none, none, none, none, none, none] = .rt (.lst true (nms.map .str)) (some s :: ρ') ∧ nms.length = mn ∧ NsOk nms := by
  have hw := words_take (f := fn % 12) (m := mn) (Nat.mod_lt _ (by decide)) (by omega)
  have ec : cutL (cutL (wordsL.map D.str ++ wordsL.map D.str) (some ((fn : Int) % 12)) none) none (some (mn : Int)) = (((wordsL ++ wordsL).drop (fn % 12)).take mn).map D.str := by
    rw [← List.map_append, show ((fn : Int) % 12) = ((fn % 12 : Nat) : Int) by omega, cut_drop, cut_take, List.map_take, List.map_drop]
  have wd := words_D
  have wf1 : frzs (wordsL.map D.str) = wordsL.map D.str := frzs_mapf (fun _ => rfl) _
  have wn1 : nfms (wordsL.map D.str) = true := nfms_mapf (fun _ => rfl) _
  have fc : ∀ l h, frzs (cutL (wordsL.map D.str ++ wordsL.map D.str) l h) = cutL (wordsL.map D.str ++ wordsL.map D.str) l h := by
    intro l h
    rw [← List.map_append, cutL_map]
    exact frzs_mapf (fun _ => rfl) _
  have wl : wordsL.length ≤ 8388608 := by decide
  have wl2 : (wordsL.map D.str).length + (wordsL.map D.str).length ≤ 16777216 := by rw [List.length_map]; omega
  have nl : nfms ((((wordsL ++ wordsL).drop (fn % 12)).take mn).map D.str) = true := nfms_mapf (fun _ => rfl) _
  generalize wordsL.map D.str = W at wd ec wf1 fc wl2 wn1
  generalize ((wordsL ++ wordsL).drop (fn % 12)).take mn = L at hw ec nl
  refine ⟨L, [some (.int mn), some (.str "abcdefghijklmnopqrstuvwxyz"), some (.int fn), some (.int 0), some (.int c), some (.lst true W), none, none, none, none, none, none, none, none], ?_, hw⟩
  unfold nS2
  simp [k_eq, wd, wf1, wn1, fc, frzs_app, sizeLine, wl2, ec, getS_if, setS_if, frzS, List.mapIdx_cons]
theorem n3_no {n wf : Nat} {m f w c : Int} {s : D} (h : w ≠ 1) : denS (callD fns wf n) wf nS3 [some s, some (.int m), some (.str "abcdefghijklmnopqrstuvwxyz"), some (.int f), some (.int w), some (.int c), none, none, none, none, none, none, none, none, none] = .nx [some s, some (.int m), some (.str "abcdefghijklmnopqrstuvwxyz"), some (.int f), some (.int w), some (.int c), none, none, none, none, none, none, none, none, none] := by
  unfold nS3
  simp [k_eq, beq_false_of_ne h]
theorem n3_yes {n wf : Nat} {m f c : Int} {s : D} (h : m ≤ 12) (h1 : 1 ≤ m) (hc : StepOk c) : ∃ (nms : List Str) (ρ' : Mn.Env), denS (callD fns wf n) wf nS3 [some s, some (.int m), some (.str "abcdefghijklmnopqrstuvwxyz"), some (.int f), some (.int 1), some (.int c), none, none, none, none, none, none, none, none, none] = .rt (.lst true (nms.map .str)) (some s :: ρ') ∧ nms.length = m.toNat ∧ NsOk nms := by
  have sc : sm64 c = true := by rcases hc with rfl | rfl | rfl | rfl | rfl | rfl <;> decide
  obtain ⟨ρ', g1, ⟨w11, rfl⟩⟩ := lcL_map (own := [11]) (q := false) (body := lcB (callD fns wf n) (.nm 11) .no (.ix true (.nm 2) (.bin .mod true (.bin .add true (.nm 3) (.bin .mul true (.nm 5) (.nm 11))) (.cst (.int 26))))) (f := fun i : Nat => D.int ((0 : Int) + (i : Int))) (zs := List.range m.toNat)
    (fun i => some (.str (oneS ((f + c * (i : Int)) % 26)))) (fun x d _ e => by cases e; exact .inr rfl)
    (fun ρ => ∃ w11, ρ = [some s, some (.int m), some (.str "abcdefghijklmnopqrstuvwxyz"), some (.int f), some (.int 1), some (.int c), none, none, none, none, none, w11, none, none, none]) (fun i ρ hi ⟨w11, e⟩ => by
      subst e
      have la := letter_at (i := (f + c * (i : Int)) % 26) (Int.emod_nonneg _ (by decide)) (Int.emod_lt_of_pos _ (by decide))
      refine ⟨[some s, some (.int m), some (.str "abcdefghijklmnopqrstuvwxyz"), some (.int f), some (.int 1), some (.int c), none, none, none, none, none, some (.int (i : Nat)), none, none, none], ⟨_, rfl⟩, ?_⟩
      simp [lcB, wipeS, sc, la, sizeLine, abc_len, oneS]) (ρ := [some s, some (.int m), some (.str "abcdefghijklmnopqrstuvwxyz"), some (.int f), some (.int 1), some (.int c), none, none, none, none, none, none, none, none, none]) ⟨none, rfl⟩
  rw [fm_map] at g1
  have em : (List.range m.toNat).map (fun i : Nat => D.str (oneS ((f + c * (i : Int)) % 26))) = ((List.range m.toNat).map fun i : Nat => oneS ((f + c * (i : Int)) % 26)).map .str := by simp
  have g1' := g1
  rw [show (List.range m.toNat).map (fun i : Nat => D.int ((0 : Int) + (i : Int))) = rngL 0 m.toNat from rfl] at g1'
  rw [em] at g1'
  refine ⟨(List.range m.toNat).map fun i : Nat => oneS ((f + c * (i : Int)) % 26), [some (.int m), some (.str "abcdefghijklmnopqrstuvwxyz"), some (.int f), some (.int 1), some (.int c), none, none, none, none, none, none, none, none, none], ?_, by simp, fun z hz => ?_, nodup_map fun i j hi hj e => ?_⟩
  · have ll : ((List.range m.toNat).map fun i : Nat => oneS ((f + c * (i : Int)) % 26)).length ≤ 16777216 := by simp; omega
    have bm : big m = true := decide_eq_true ⟨by omega, by omega⟩
    generalize (List.range m.toNat).map (fun i : Nat => oneS ((f + c * (i : Int)) % 26)) = L at g1' ll
    have hA : den (callD fns wf n) (.cmp .eq true (.nm 4) (.cst (.int 1))) [some s, some (.int m), some (.str "abcdefghijklmnopqrstuvwxyz"), some (.int f), some (.int 1), some (.int c), none, none, none, none, none, none, none, none, none] = .ok (.bl true) [some s, some (.int m), some (.str "abcdefghijklmnopqrstuvwxyz"), some (.int f), some (.int 1), some (.int c), none, none, none, none, none, none, none, none, none] := by simp [k_eq]
    have h2 : den (callD fns wf n) (.lc [11] true false (.nm 11) [1] (.rng1 (.nm 1)) .no (.ix true (.nm 2) (.bin .mod true (.bin .add true (.nm 3) (.bin .mul true (.nm 5) (.nm 11))) (.cst (.int 26))))) [some s, some (.int m), some (.str "abcdefghijklmnopqrstuvwxyz"), some (.int f), some (.int 1), some (.int c), none, none, none, none, none, none, none, none, none] = .ok (.lst true (L.map .str)) [some s, some (.int m), some (.str "abcdefghijklmnopqrstuvwxyz"), some (.int f), some (.int 1), some (.int c), none, none, none, none, none, none, none, none, none] := by simp [bm, g1', rngL_nfm, restS, keptS, sizeLine, ll]
    have h3 : nfm (.lst true (L.map .str)) = true := by simp
    have h4 : denS (callD fns wf n) wf (.ret [1, 2, 3, 5, 11] (.lc [11] true false (.nm 11) [1] (.rng1 (.nm 1)) .no (.ix true (.nm 2) (.bin .mod true (.bin .add true (.nm 3) (.bin .mul true (.nm 5) (.nm 11))) (.cst (.int 26)))))) [some s, some (.int m), some (.str "abcdefghijklmnopqrstuvwxyz"), some (.int f), some (.int 1), some (.int c), none, none, none, none, none, none, none, none, none] = .rt (.lst true (L.map .str)) [some s, some (.int m), some (.str "abcdefghijklmnopqrstuvwxyz"), some (.int f), some (.int 1), some (.int c), none, none, none, none, none, none, none, none, none] := by
      rw [z_ret, h2]
      show O.rt _ (if nfm _ = true then _ else _) = _
      rw [h3]
      rfl
    unfold nS3
    rw [ite_yes hA]
    exact ret_ h4
  · obtain ⟨i, _, rfl⟩ := List.mem_map.mp hz
    exact (oneS_ok (Int.emod_nonneg _ (by decide)) (Int.emod_lt_of_pos _ (by decide))).up (by omega)
  · have h : lt_ ((f + c * (i : Int)) % 26) = lt_ ((f + c * (j : Int)) % 26) := by
      have := congrArg (fun z : Str => z.cps.toList) e
      simp only [cps_one] at this
      injection this
    exact step26 hc (by omega) (by omega) (lt_inj (Int.emod_nonneg _ (by decide)) (Int.emod_nonneg _ (by decide)) h)
theorem n4_ {n wf b : Nat} {m f w c : Int} {s : D} (hn : 1 ≤ n) (hs : St b s) (hb : b ≤ 890000) : ∃ (s' : D) (x : Str), denS (callD fns wf n) wf nS4 [some s, some (.int m), some (.str "abcdefghijklmnopqrstuvwxyz"), some (.int f), some (.int w), some (.int c), none, none, none, none, none, none, none, none, none] = .nx [some s', some (.int m), some (.str "abcdefghijklmnopqrstuvwxyz"), some (.int f), some (.int w), some (.int c), none, some (.str x), none, none, none, none, none, none, none] ∧ St (b + 4) s' ∧ NmOk 3 x := by
  obtain ⟨a4, s4, e4, st4, nf4, p4, q4⟩ := take (n := n) (wf := wf) (m := 4) (by omega) hs (by omega) (by omega) (by omega)
  obtain ⟨zs, s5, w5, e5, st5, nf5, z1, z2⟩ := letters_ (n := n) (wf := wf) (b := b + 1) (v1 := some (.int m)) (v3 := some (.int f)) (v4 := some (.int w)) (v5 := some (.int c)) (v6 := none) (v7 := none) (v8 := none) (v9 := none) (v10 := none) (v11 := none) (v12 := none) (v13 := none) (v14 := none) (by omega) st4 (by omega) (by omega) q4
  have sum5 : (zs.map (·.length)).sum ≤ 16777216 := by
    have := sum_le (f := (·.length)) (n := 1) fun z hz => (z2 z hz).1
    omega
  have z0 : zs.length ≤ 16777216 := by omega
  have e0 : (Str.ofString "").length = 0 := by decide +kernel
  have b4 : big a4 = true := decide_eq_true ⟨by omega, by omega⟩
  refine ⟨s5, Str.join "" zs, ?_, st5, (join_ok z2).up (by omega)⟩
  unfold nS4
  simp [e4, nf4, b4, e5, nf5, strs_map, restS, keptS, sizeLine, e0, sum5, z0, rngL_nfm]
theorem n5_ {n wf b : Nat} {m f w c : Int} {s : D} {x : Str} (hn : 1 ≤ n) (hs : St b s) (hb : b ≤ 890000) : ∃ (s' : D) (t : Str), denS (callD fns wf n) wf nS5 [some s, some (.int m), some (.str "abcdefghijklmnopqrstuvwxyz"), some (.int f), some (.int w), some (.int c), none, some (.str x), none, none, none, none, none, none, none] = .nx [some s', some (.int m), some (.str "abcdefghijklmnopqrstuvwxyz"), some (.int f), some (.int w), some (.int c), none, some (.str x), some (.str t), none, none, none, none, none, none] ∧ St (b + 4) s' ∧ NmOk 2 t := by
  obtain ⟨a4, s4, e4, st4, nf4, p4, q4⟩ := take (n := n) (wf := wf) (m := 3) (by omega) hs (by omega) (by omega) (by omega)
  obtain ⟨zs, s5, w5, e5, st5, nf5, z1, z2⟩ := letters_ (n := n) (wf := wf) (b := b + 1) (v1 := some (.int m)) (v3 := some (.int f)) (v4 := some (.int w)) (v5 := some (.int c)) (v6 := none) (v7 := some (.str x)) (v8 := none) (v9 := none) (v10 := none) (v11 := none) (v12 := none) (v13 := none) (v14 := none) (by omega) st4 (by omega) (by omega) (by omega)
  have sum5 : (zs.map (·.length)).sum ≤ 16777216 := by
    have := sum_le (f := (·.length)) (n := 1) fun z hz => (z2 z hz).1
    omega
  have z0 : zs.length ≤ 16777216 := by omega
  have e0 : (Str.ofString "").length = 0 := by decide +kernel
  have b4 : big a4 = true := decide_eq_true ⟨by omega, by omega⟩
  refine ⟨s5, Str.join "" zs, ?_, st5, (join_ok z2).up (by omega)⟩
  unfold nS5
  simp [e4, nf4, b4, e5, nf5, strs_map, restS, keptS, sizeLine, e0, sum5, z0, rngL_nfm]
theorem n6_ {n wf b : Nat} {m f w c : Int} {s : D} {x t : Str} (hn : 1 ≤ n) (hs : St b s) (hb : b ≤ 900000) : ∃ (s' : D) (l : Int), denS (callD fns wf n) wf nS6 [some s, some (.int m), some (.str "abcdefghijklmnopqrstuvwxyz"), some (.int f), some (.int w), some (.int c), none, some (.str x), some (.str t), none, none, none, none, none, none] = .nx [some s', some (.int m), some (.str "abcdefghijklmnopqrstuvwxyz"), some (.int f), some (.int w), some (.int c), none, some (.str x), some (.str t), some (.int l), some (.lst true []), none, none, none, none] ∧ St (b + 1) s' := by
  obtain ⟨a4, s4, e4, st4, nf4, p4, q4⟩ := take (n := n) (wf := wf) (m := 2) (by omega) hs (by omega) (by omega) (by omega)
  refine ⟨s4, a4, ?_, st4⟩
  unfold nS6
  simp [e4, nf4, sizeLine]
end Lawk13

namespace Lawk13
open PySem L2 Mn
def nB7 : Ss := (.cons (.asg (.nm 12) [3, 5, 11] (.bin .mod true (.bin .add true (.nm 3) (.bin .mul true (.nm 5) (.nm 11))) (.cst (.int 676))))   (.cons (.asg (.nm 13) [7, 2, 12, 8] (.bin .add true (.bin .add true (.bin .add true (.nm 7) (.ix true (.nm 2) (.bin .fdiv true (.nm 12) (.cst (.int 26))))) (.ix true (.nm 2) (.bin .mod true (.nm 12) (.cst (.int 26))))) (.nm 8)))   (.cons (.ite (.and (.cmp .eq true (.nm 9) (.cst (.int 1))) (.one (.cmp .eq true (.bin .mod true (.nm 11) (.cst (.int 2))) (.cst (.int 1))))) (.cons (.asg (.nm 13) [10, 2, 3, 11] (.bin .add true (.ix true (.nm 10) (.neg (.cst (.int 1)))) (.ix true (.nm 2) (.bin .mod true (.bin .add true (.nm 3) (.nm 11)) (.cst (.int 26))))))   .nil) .nil)   (.cons (.ex (.mu .append (.sl 10) (.cons true (.nm 13) .nil)))   .nil))))
theorem nS7_eq : nS7 = .for_ (.nm 11) [1] true (.rng1 (.nm 1)) nB7 := rfl
theorem n7_ {n wf : Nat} {m f w c l : Int} {s : D} {x t : Str} (h1 : 1 ≤ m) (h2 : m ≤ 12) (hc : StepOk c) (hx : NmOk 3 x) (ht : NmOk 2 t) : ∃ (u11 u12 u13 : Option D), denS (callD fns wf n) wf nS7 [some s, some (.int m), some (.str "abcdefghijklmnopqrstuvwxyz"), some (.int f), some (.int w), some (.int c), none, some (.str x), some (.str t), some (.int l), some (.lst true []), none, none, none, none] = .nx [some s, some (.int m), some (.str "abcdefghijklmnopqrstuvwxyz"), some (.int f), some (.int w), some (.int c), none, some (.str x), some (.str t), some (.int l), some (.lst true (((List.range m.toNat).map (nameF x t f c (l == 1))).map .str)), u11, u12, u13, none] := by
  have sc : sm64 c = true := by rcases hc with rfl | rfl | rfl | rfl | rfl | rfl <;> decide
  obtain ⟨ρ', g0, u11, u12, u13, rfl⟩ := forL_run (fun i ρ => ∃ (u11 u12 u13 : Option D), ρ = [some s, some (.int m), some (.str "abcdefghijklmnopqrstuvwxyz"), some (.int f), some (.int w), some (.int c), none, some (.str x), some (.str t), some (.int l), some (.lst true (((List.range i).map (nameF x t f c (l == 1))).map .str)), u11, u12, u13, none]) (f := forB (callD fns wf n) wf (.nm 11) nB7) (xs := rngL 0 m.toNat) (fun i y ρ hy ⟨u11, u12, u13, e⟩ => by
    obtain ⟨rfl, hi⟩ := rngL_get hy
    subst e
    have hi12 : i < 12 := by omega
    have hv : 0 ≤ val_ f c i ∧ val_ f c i < 676 := val_lt
    have ev : (f + c * (i : Int)) % 676 = val_ f c i := rfl
    have l1 := letter_at (i := val_ f c i / 26) (by omega) (by omega)
    have l2 := letter_at (i := val_ f c i % 26) (by omega) (by omega)
    have l3 := letter_at (i := (f + (i : Int)) % 26) (Int.emod_nonneg _ (by decide)) (Int.emod_lt_of_pos _ (by decide))
    have lg26 : Nat.log2 26 < 9000 := by decide +kernel
    have xl := hx.1
    have tl := ht.1
    have o0 : ∀ j, (⟨#[lt_ j]⟩ : Str) = oneS j := fun _ => rfl
    have o1 : ∀ j, (oneS j).length = 1 := fun _ => rfl
    have k1 : x.length + 1 ≤ 16777216 := by omega
    have k2 : (x ++ oneS (val_ f c i / 26)).length + 1 ≤ 16777216 := by rw [app_len, o1]; omega
    have k3 : (x ++ oneS (val_ f c i / 26) ++ oneS (val_ f c i % 26)).length + t.length ≤ 16777216 := by rw [app_len, app_len, o1, o1]; omega
    have hb1 : x ++ oneS (val_ f c i / 26) ++ oneS (val_ f c i % 26) ++ t = baseS x t (val_ f c i) := rfl
    have hnl : ((List.range i).map (nameF x t f c (l == 1))).length < 16777216 := by simp; omega
    have es : (List.range (i + 1)).map (nameF x t f c (l == 1)) = (List.range i).map (nameF x t f c (l == 1)) ++ [nameF x t f c (l == 1) i] := by rw [List.range_succ, List.map_append]; rfl
    have close : ∀ (o : O) (nm : Str), nm = nameF x t f c (l == 1) i → o = .nx [some s, some (.int m), some (.str "abcdefghijklmnopqrstuvwxyz"), some (.int f), some (.int w), some (.int c), none, some (.str x), some (.str t), some (.int l), some (.lst true (((List.range i).map (nameF x t f c (l == 1))).map .str ++ [.str nm])), some (.int (i : Nat)), some (.int (val_ f c i)), some (.str nm), none] →
        ∃ ρ', (o = .nx ρ' ∨ o = .ct ρ') ∧ ∃ (u11 u12 u13 : Option D), ρ' = [some s, some (.int m), some (.str "abcdefghijklmnopqrstuvwxyz"), some (.int f), some (.int w), some (.int c), none, some (.str x), some (.str t), some (.int l), some (.lst true (((List.range (i + 1)).map (nameF x t f c (l == 1))).map .str)), u11, u12, u13, none] := fun o nm e1 e2 =>
      ⟨_, .inl e2, some (.int (i : Nat)), some (.int (val_ f c i)), some (.str nm), by rw [es, List.map_append, e1]; rfl⟩
    have last : i % 2 = 1 → ((List.range i).map (nameF x t f c (l == 1))).map D.str = ((List.range (i - 1)).map (nameF x t f c (l == 1))).map D.str ++ [.str (baseS x t (val_ f c (i - 1)))] := fun hodd => by
      obtain ⟨j, rfl⟩ : ∃ j, i = j + 1 := ⟨i - 1, by omega⟩
      rw [List.range_succ, List.map_append, List.map_append, Nat.add_sub_cancel]
      have : nameF x t f c (l == 1) j = baseS x t (val_ f c j) := by unfold nameF; rw [if_neg (by omega)]
      simp [this]
    rw [forB]
    unfold nB7
    by_cases hA : (l == 1) = true
    · by_cases hB : ((i : Int) % 2 == 1) = true
      · have hB2 : i % 2 = 1 := by have := eq_of_beq hB; omega
        have f3 : atI (((List.range i).map (nameF x t f c (l == 1))).map D.str) (-1) = some (.str (baseS x t (val_ f c (i - 1)))) := by rw [last hB2]; exact atI_app_last
        have lb : (baseS x t (val_ f c (i - 1))).length + 1 ≤ 16777216 := by rw [base_len]; omega
        refine close _ (baseS x t (val_ f c (i - 1)) ++ oneS ((f + (i : Int)) % 26)) (by unfold nameF; rw [if_pos ⟨hA, hB2⟩]) ?_
        generalize (List.range i).map (nameF x t f c (l == 1)) = L at f3 hnl
        simp [sizeLine, lg26, sc, ev, l1, l2, l3, abc_len, o0, o1, k1, k2, k3, hb1, k_eq, hA, hB, hnl, f3, lb]
      · have hB : ((i : Int) % 2 == 1) = false := by simpa using hB
        refine close _ (baseS x t (val_ f c i)) (by unfold nameF; rw [if_neg fun h => by have := h.2; simp at hB; omega]) ?_
        generalize (List.range i).map (nameF x t f c (l == 1)) = L at hnl
        simp [sizeLine, lg26, sc, ev, l1, l2, abc_len, o0, o1, k1, k2, k3, hb1, k_eq, hA, hB, hnl]
    · have hA : (l == 1) = false := by simpa using hA
      refine close _ (baseS x t (val_ f c i)) (by unfold nameF; rw [if_neg fun h => by have := h.1; rw [hA] at this; cases this]) ?_
      generalize (List.range i).map (nameF x t f c (l == 1)) = L at hnl
      simp [sizeLine, lg26, sc, ev, l1, l2, abc_len, o0, o1, k1, k2, k3, hb1, k_eq, hA, hnl]) (ρ := [some s, some (.int m), some (.str "abcdefghijklmnopqrstuvwxyz"), some (.int f), some (.int w), some (.int c), none, some (.str x), some (.str t), some (.int l), some (.lst true []), none, none, none, none]) ⟨none, none, none, rfl⟩
  rw [rngL_len] at g0
  refine ⟨u11, u12, u13, ?_⟩
  have bm : big m = true := decide_eq_true ⟨by omega, by omega⟩
  rw [nS7_eq]
  generalize nB7 = B at g0
  simp [bm, g0, rngL_nfm]
theorem names_ {n wf b : Nat} {m : Int} {s : D} (hn : 2 ≤ n) (hs : St b s) (hb : b ≤ 800000) (h1 : 1 ≤ m) (h2 : m ≤ 12) :
    ∃ (nms : List Str) (s' : D), callD fns wf n 12 [s, .int m] = some (.lst true (nms.map .str), [s']) ∧ St (b + 12) s' ∧ nfm s' = true ∧ nms.length = m.toNat ∧ NsOk nms := by
  obtain ⟨k, rfl⟩ : ∃ k, n = k + 1 := ⟨n - 1, by omega⟩
  obtain ⟨s0, f, w, e0, st0, f0, f1, w0, w1⟩ := n0_ (n := k) (wf := wf) (m := m) (by omega) hs (by omega)
  obtain ⟨s1, c, e1, st1, hc⟩ := n1_ (n := k) (wf := wf) (m := m) (f := f) (w := w) (by omega) st0 (by omega)
  rw [callD_at (f := f_law_names) rfl rfl]
  show ∃ (nms : List Str) (s' : D), runF f_law_names (denSs _ _ b_law_names [some s, some (.int m), none, none, none, none, none, none, none, none, none, none, none, none, none]) = _ ∧ _
  rw [nS_split, step_ e0, step_ e1]
  by_cases h0 : w = 0
  · subst h0
    obtain ⟨fn, rfl⟩ : ∃ fn : Nat, f = fn := ⟨f.toNat, by omega⟩
    obtain ⟨mn, rfl⟩ : ∃ mn : Nat, m = mn := ⟨m.toNat, by omega⟩
    obtain ⟨nms, ρ', e2, hl, ok⟩ := n2_yes (n := k) (wf := wf) (fn := fn) (mn := mn) (c := c) (s := s1) (by omega)
    exact ⟨nms, s1, by rw [ret_ e2]; rfl, st1.up (by omega), st1.nf, by omega, ok⟩
  · rw [step_ (n2_no h0)]
    by_cases h1' : w = 1
    · subst h1'
      obtain ⟨nms, ρ', e2, hl, ok⟩ := n3_yes (n := k) (wf := wf) (f := f) (m := m) (c := c) (s := s1) h2 h1 hc
      exact ⟨nms, s1, by rw [ret_ e2]; rfl, st1.up (by omega), st1.nf, by omega, ok⟩
    · rw [step_ (n3_no h1')]
      obtain ⟨s4, x, e4, st4, hx⟩ := n4_ (n := k) (wf := wf) (m := m) (f := f) (w := w) (c := c) (by omega) st1 (by omega)
      obtain ⟨s5, t, e5, st5, ht⟩ := n5_ (n := k) (wf := wf) (m := m) (f := f) (w := w) (c := c) (x := x) (by omega) st4 (by omega)
      obtain ⟨s6, l, e6, st6⟩ := n6_ (n := k) (wf := wf) (m := m) (f := f) (w := w) (c := c) (x := x) (t := t) (by omega) st5 (by omega)
      obtain ⟨u11, u12, u13, e7⟩ := n7_ (n := k) (wf := wf) (m := m) (f := f) (w := w) (c := c) (l := l) (s := s6) h1 h2 hc hx ht
      rw [step_ e4, step_ e5, step_ e6, step_ e7]
      refine ⟨(List.range m.toNat).map (nameF x t f c (l == 1)), s6, ?_, st6.up (by omega), st6.nf, by simp, fun z hz => ?_, nodup_map fun i j hi hj e => nameF_inj hc (by omega) (by omega) e⟩
      · generalize (List.range m.toNat).map (nameF x t f c (l == 1)) = L
        unfold nS8
        simp [f_law_names]
      · obtain ⟨i, _, rfl⟩ := List.mem_map.mp hz
        exact nameF_ok hx ht
end Lawk13

namespace Lawk13
open PySem L2 Mn
theorem sorted_D {o : Bool} {xs : List D} (ok : sortOk xs = true) : biD .sorted [.lst o xs] = some (.lst true (srtBy tLt xs)) := by
  cases xs with
  | nil =>
    show some (D.lst true ((sortI []).map .int)) = _
    simp [sortI, srtBy]
  | cons x xs =>
    obtain ⟨ds, rfl, _⟩ := sortOk_items ok x List.mem_cons_self
    show ((sortT (.tup ds :: xs)).map fun ys => D.lst true ys) = _
    unfold sortT
    rw [if_pos ok]
    rfl
abbrev Col := Str × Int × Int × Int
def colD (c : Col) : D := .tup [.str c.1, .int c.2.1, .int c.2.2.1, .int c.2.2.2]
def hrD : Option Int → D
  | none => .non
  | some h => .int h
@[simp] theorem hrD_frz {h : Option Int} : frz (hrD h) = hrD h := by cases h <;> rfl
@[simp] theorem hrD_nfm {h : Option Int} : nfm (hrD h) = true := by cases h <;> rfl
abbrev Wsh := Str × Str × Option Int
def wshD (w : Wsh) : D := .tup [.str w.1, .str w.2.1, hrD w.2.2]
@[simp] theorem cols_frz {cs : List Col} : frzs (cs.map colD) = cs.map colD := frzs_mapf (fun a => by simp [colD]) cs
@[simp] theorem cols_nfm {cs : List Col} : nfms (cs.map colD) = true := nfms_mapf (fun a => by simp [colD]) cs
@[simp] theorem wshs_frz {ws : List Wsh} : frzs (ws.map wshD) = ws.map wshD := frzs_mapf (fun a => by simp [wshD]) ws
@[simp] theorem wshs_nfm {ws : List Wsh} : nfms (ws.map wshD) = true := nfms_mapf (fun a => by simp [wshD]) ws
def ColOk (c : Col) : Prop := NmOk 8 c.1 ∧ (1 ≤ c.2.1 ∧ c.2.1 ≤ 20) ∧ (0 ≤ c.2.2.1 ∧ c.2.2.1 ≤ 99) ∧ 1 ≤ c.2.2.2 ∧ c.2.2.2 ≤ 999
def WshOk (w : Wsh) : Prop := NmOk 8 w.1 ∧ NmOk 8 w.2.1 ∧ w.1 ≠ w.2.1 ∧ ∀ h, w.2.2 = some h → 0 ≤ h ∧ h ≤ 99
def CsOk (cs : List Col) : Prop := ∀ c, c ∈ cs → ColOk c
def WsOk (ws : List Wsh) : Prop := ∀ w, w ∈ ws → WshOk w
def Uni (ws : List Wsh) : Prop := ∀ x y, x ∈ ws → y ∈ ws → x.1 = y.1 → x.2.1 = y.2.1 → x = y
structure PalOk (cs : List Col) (ws : List Wsh) : Prop where
  ne : cs ≠ []
  cl : cs.length ≤ 12
  cok : CsOk cs
  nd : (cs.map (·.1)).Nodup
  wl : ws.length ≤ 60
  wok : WsOk ws
def palD (cs : List Col) (ws : List Wsh) : D := .tup [.tup (cs.map colD), .tup (ws.map wshD)]
theorem cols_sort {cs : List Col} : sortOk (cs.map colD) = true := by
  refine (Bool.and_eq_true _ _).mpr ⟨(Bool.or_eq_true _ _).mpr (.inr (List.all_eq_true.mpr fun x hx => ?_)), List.all_eq_true.mpr fun x hx => List.all_eq_true.mpr fun y hy => ?_⟩
  · obtain ⟨c, _, rfl⟩ := List.mem_map.mp hx
    rfl
  · obtain ⟨c, _, rfl⟩ := List.mem_map.mp hx
    obtain ⟨e, _, rfl⟩ := List.mem_map.mp hy
    show cmpO [_, _, _, _] [_, _, _, _] = true
    simp [cmpO, bothA]
theorem str_toks {x y : Str} (h : x.cps.toList = y.cps.toList) : x = y := by
  cases x; cases y
  simp only [Str.mk.injEq]
  exact Array.toList_inj.mp h
theorem wshs_sort {ws : List Wsh} (hu : Uni ws) : sortOk (ws.map wshD) = true := by
  refine (Bool.and_eq_true _ _).mpr ⟨(Bool.or_eq_true _ _).mpr (.inr (List.all_eq_true.mpr fun x hx => ?_)), List.all_eq_true.mpr fun x hx => List.all_eq_true.mpr fun y hy => ?_⟩
  · obtain ⟨c, _, rfl⟩ := List.mem_map.mp hx
    obtain ⟨a, b, h⟩ := c
    cases h <;> rfl
  · obtain ⟨c, hc, rfl⟩ := List.mem_map.mp hx
    obtain ⟨e, he, rfl⟩ := List.mem_map.mp hy
    show cmpO [.str c.1, .str c.2.1, hrD c.2.2] [.str e.1, .str e.2.1, hrD e.2.2] = true
    rw [cmpO]
    split
    · rename_i h1
      rw [cmpO]
      split
      · rename_i h2
        have := hu c e hc he (str_toks (Atm.s.inj h1)) (str_toks (Atm.s.inj h2))
        subst this
        rw [cmpO, if_pos rfl]
        rfl
      · rfl
    · rfl
theorem pick_int {zs : List D} {i lo hi : Int} (h0 : 0 ≤ i) (h1 : i < zs.length) (hz : ∀ z, z ∈ zs → ∃ v : Int, z = .int v ∧ lo ≤ v ∧ v ≤ hi) : ∃ v : Int, atI zs i = some (.int v) ∧ lo ≤ v ∧ v ≤ hi := by
  obtain ⟨z, e, hm⟩ := atI_mem h0 h1
  obtain ⟨v, rfl, h⟩ := hz z hm
  exact ⟨v, e, h⟩
def pS0 : S := (.par [2, 3, 4] [1] (.cons true (.call true 12 (.io 0 (.cons true (.bin .add true (.cst (.int 1)) (.call true 11 (.io 0 (.cons true (.nm 1) .nil)))) .nil))) (.cons true (.lst .nil) (.cons true (.lst .nil) .nil))))
def pS1 : S := (.for_ (.nm 5) [2] true (.seq (.nm 2)) (.cons (.asg (.nm 6) [] (.ix true (.lst (.cons true (.cst (.int 1)) (.cons true (.bin .add true (.cst (.int 1)) (.call true 11 (.io 0 (.cons true (.cst (.int 3)) .nil)))) (.cons true (.cst (.int 20)) (.cons true (.bin .add true (.cst (.int 1)) (.call true 11 (.io 0 (.cons true (.cst (.int 20)) .nil)))) .nil))))) (.call true 11 (.io 0 (.cons true (.cst (.int 4)) .nil)))))   (.cons (.asg (.nm 7) [] (.ix true (.lst (.cons true (.cst (.int 0)) (.cons true (.call true 11 (.io 0 (.cons true (.cst (.int 4)) .nil))) (.cons true (.cst (.int 99)) (.cons true (.call true 11 (.io 0 (.cons true (.cst (.int 100)) .nil))) .nil))))) (.call true 11 (.io 0 (.cons true (.cst (.int 4)) .nil)))))   (.cons (.ex (.mu .append (.sl 3) (.cons true (.tup (.cons true (.nm 5) (.cons true (.nm 6) (.cons true (.nm 7) (.cons true (.bin .add true (.cst (.int 1)) (.call true 11 (.io 0 (.cons true (.cst (.int 999)) .nil)))) .nil))))) .nil)))   .nil))))
def pS2 : S := (.for_ (.nm 8) [2] false (.rng1 (.bin .mul true (.bi .len (.cons true (.nm 2) .nil)) (.bi .len (.cons true (.nm 2) .nil)))) (.cons (.asg (.nm 9) [2, 8] (.tup (.cons true (.ix true (.nm 2) (.bin .fdiv true (.nm 8) (.bi .len (.cons true (.nm 2) .nil)))) (.cons true (.ix true (.nm 2) (.bin .mod true (.nm 8) (.bi .len (.cons true (.nm 2) .nil)))) .nil))))   (.cons (.ite (.and (.cmp .ne true (.ix true (.nm 9) (.cst (.int 0))) (.ix true (.nm 9) (.cst (.int 1)))) (.and (.cmp .lt true (.bi .len (.cons true (.nm 4) .nil)) (.cst (.int 60))) (.one (.cmp .gt true (.call true 11 (.io 0 (.cons true (.cst (.int 3)) .nil))) (.cst (.int 0)))))) (.cons (.asg (.nm 10) [] (.ix true (.lst (.cons true (.cst (.int 0)) (.cons true (.bin .add true (.cst (.int 1)) (.call true 11 (.io 0 (.cons true (.cst (.int 4)) .nil)))) (.cons true (.cst (.int 99)) (.cons true (.cst .non) (.cons true (.call true 11 (.io 0 (.cons true (.cst (.int 100)) .nil))) .nil)))))) (.call true 11 (.io 0 (.cons true (.cst (.int 5)) .nil)))))   (.cons (.ex (.mu .append (.sl 4) (.cons true (.bin .add true (.nm 9) (.tup (.cons true (.nm 10) .nil))) .nil)))   .nil)) .nil)   .nil)))
def pS3 : S := (.ret [3, 4] (.tup (.cons true (.bi .tuple (.cons true (.bi .sorted (.cons true (.nm 3) .nil)) .nil)) (.cons true (.bi .tuple (.cons true (.bi .sorted (.cons true (.nm 4) .nil)) .nil)) .nil))))
theorem pS_split : b_law_palette = (.cons pS0 (.cons pS1 (.cons pS2 (.cons pS3 .nil)))) := rfl
theorem p0_ {n wf b : Nat} {m : Int} {s : D} (hn : 2 ≤ n) (hs : St b s) (hb : b ≤ 700000) (h1 : 1 ≤ m) (h2 : m ≤ 12) : ∃ (s' : D) (nms : List Str), denS (callD fns wf n) wf pS0 [some s, some (.int m), none, none, none, none, none, none, none, none, none] = .nx [some s', some (.int m), some (.lst true (nms.map .str)), some (.lst true []), some (.lst true []), none, none, none, none, none, none] ∧ St (b + 13) s' ∧ 1 ≤ nms.length ∧ nms.length ≤ 12 ∧ NsOk nms := by
  obtain ⟨f, s1, e1, st1, nf1, p1, q1⟩ := take (n := n) (wf := wf) (m := m) (by omega) hs (by omega) (by omega) (by omega)
  obtain ⟨nms, s2, e2, st2, nf2, hl, ok⟩ := names_ (n := n) (wf := wf) (m := 1 + f) hn st1 (by omega) (by omega) (by omega)
  exact ⟨s2, nms, by unfold pS0; simp [e1, nf1, e2, nf2, sizeLine], st2.up (by omega), by omega, by omega, ok⟩
def pB1 : Ss := (.cons (.asg (.nm 6) [] (.ix true (.lst (.cons true (.cst (.int 1)) (.cons true (.bin .add true (.cst (.int 1)) (.call true 11 (.io 0 (.cons true (.cst (.int 3)) .nil)))) (.cons true (.cst (.int 20)) (.cons true (.bin .add true (.cst (.int 1)) (.call true 11 (.io 0 (.cons true (.cst (.int 20)) .nil)))) .nil))))) (.call true 11 (.io 0 (.cons true (.cst (.int 4)) .nil)))))   (.cons (.asg (.nm 7) [] (.ix true (.lst (.cons true (.cst (.int 0)) (.cons true (.call true 11 (.io 0 (.cons true (.cst (.int 4)) .nil))) (.cons true (.cst (.int 99)) (.cons true (.call true 11 (.io 0 (.cons true (.cst (.int 100)) .nil))) .nil))))) (.call true 11 (.io 0 (.cons true (.cst (.int 4)) .nil)))))   (.cons (.ex (.mu .append (.sl 3) (.cons true (.tup (.cons true (.nm 5) (.cons true (.nm 6) (.cons true (.nm 7) (.cons true (.bin .add true (.cst (.int 1)) (.call true 11 (.io 0 (.cons true (.cst (.int 999)) .nil)))) .nil))))) .nil)))   .nil)))
theorem pS1_eq : pS1 = .for_ (.nm 5) [2] true (.seq (.nm 2)) pB1 := rfl
theorem p1_ {n wf b : Nat} {m : Int} {s : D} {nms : List Str} (hn : 2 ≤ n) (hs : St b s) (hb : b ≤ 700000) (hl : nms.length ≤ 12) (ok : NsOk nms) : ∃ (s' : D) (cs : List Col) (u5 u6 u7 : Option D), denS (callD fns wf n) wf pS1 [some s, some (.int m), some (.lst true (nms.map .str)), some (.lst true []), some (.lst true []), none, none, none, none, none, none] = .nx [some s', some (.int m), some (.lst true (nms.map .str)), some (.lst true (cs.map colD)), some (.lst true []), u5, u6, u7, none, none, none] ∧ St (b + 84) s' ∧ cs.map (·.1) = nms ∧ CsOk cs := by
  obtain ⟨ρ', g0, s', cs, u5, u6, u7, st, cl, cok, rfl⟩ := forL_run (fun i ρ => ∃ (s' : D) (cs : List Col) (u5 u6 u7 : Option D), St (b + 7 * i) s' ∧ cs.map (·.1) = nms.take i ∧ CsOk cs ∧ ρ = [some s', some (.int m), some (.lst true (nms.map .str)), some (.lst true (cs.map colD)), some (.lst true []), u5, u6, u7, none, none, none]) (f := forB (callD fns wf n) wf (.nm 5) pB1) (xs := nms.map .str) (fun i y ρ hy ⟨s1, cs, u5, u6, u7, st1, cl, cok, e⟩ => by
    rw [List.getElem?_map] at hy
    obtain ⟨z, hz, rfl⟩ := Option.map_eq_some_iff.mp hy
    subst e
    have hi : i < nms.length := (List.getElem?_eq_some_iff.mp hz).1
    have zok := ok.1 z (List.mem_of_getElem? hz)
    obtain ⟨a2, s2, e2, st2, nf2, p2, q2⟩ := take (n := n) (wf := wf) (m := 3) (by omega) st1 (by omega) (by omega) (by omega)
    obtain ⟨a3, s3, e3, st3, nf3, p3, q3⟩ := take (n := n) (wf := wf) (m := 20) (by omega) st2 (by omega) (by omega) (by omega)
    obtain ⟨a4, s4, e4, st4, nf4, p4, q4⟩ := take (n := n) (wf := wf) (m := 4) (by omega) st3 (by omega) (by omega) (by omega)
    obtain ⟨v4, f4, g4, h4⟩ := pick_int (zs := [D.int 1, .int (1 + a2), .int 20, .int (1 + a3)]) (lo := 1) (hi := 20) p4 (by simpa using q4) fun z hz => by
      simp at hz
      rcases hz with rfl | rfl | rfl | rfl <;> exact ⟨_, rfl, by omega, by omega⟩
    obtain ⟨a5, s5, e5, st5, nf5, p5, q5⟩ := take (n := n) (wf := wf) (m := 4) (by omega) st4 (by omega) (by omega) (by omega)
    obtain ⟨a6, s6, e6, st6, nf6, p6, q6⟩ := take (n := n) (wf := wf) (m := 100) (by omega) st5 (by omega) (by omega) (by omega)
    obtain ⟨a7, s7, e7, st7, nf7, p7, q7⟩ := take (n := n) (wf := wf) (m := 4) (by omega) st6 (by omega) (by omega) (by omega)
    obtain ⟨v7, f7, g7, h7⟩ := pick_int (zs := [D.int 0, .int a5, .int 99, .int a6]) (lo := 0) (hi := 99) p7 (by simpa using q7) fun z hz => by
      simp at hz
      rcases hz with rfl | rfl | rfl | rfl <;> exact ⟨_, rfl, by omega, by omega⟩
    obtain ⟨a8, s8, e8, st8, nf8, p8, q8⟩ := take (n := n) (wf := wf) (m := 999) (by omega) st7 (by omega) (by omega) (by omega)
    have cl2 : cs.length < 16777216 := by
      have := congrArg List.length cl
      rw [List.length_map, List.length_take] at this
      omega
    refine ⟨[some s8, some (.int m), some (.lst true (nms.map .str)), some (.lst true ((cs ++ [(z, v4, v7, 1 + a8)]).map colD)), some (.lst true []), some (.str z), some (.int v4), some (.int v7), none, none, none], .inl ?_, s8, cs ++ [(z, v4, v7, 1 + a8)], _, _, _, st8.up (by omega), by rw [List.map_append, cl, List.take_add_one, hz]; rfl, fun c hc => (List.mem_append.mp hc).elim (cok c) fun h => ?_, rfl⟩
    · rw [forB]
      unfold pB1
      simp [e2, nf2, e3, nf3, e4, nf4, f4, e5, nf5, e6, nf6, e7, nf7, f7, e8, nf8, sizeLine, cl2, colD]
    · rw [List.mem_singleton.mp h]
      exact ⟨zok, ⟨g4, h4⟩, ⟨g7, h7⟩, by show 1 ≤ 1 + a8; omega, by show 1 + a8 ≤ 999; omega⟩) (ρ := [some s, some (.int m), some (.lst true (nms.map .str)), some (.lst true []), some (.lst true []), none, none, none, none, none, none]) ⟨s, [], none, none, none, by simpa using hs, rfl, fun _ z => (nomatch z), rfl⟩
  rw [List.length_map] at st cl
  rw [List.take_length] at cl
  refine ⟨s', cs, u5, u6, u7, ?_, st.up (by omega), cl, cok⟩
  rw [pS1_eq]
  generalize pB1 = B at g0
  simp [g0]
end Lawk13

namespace Lawk13
open PySem L2 Mn
def pB2 : Ss := (.cons (.asg (.nm 9) [2, 8] (.tup (.cons true (.ix true (.nm 2) (.bin .fdiv true (.nm 8) (.bi .len (.cons true (.nm 2) .nil)))) (.cons true (.ix true (.nm 2) (.bin .mod true (.nm 8) (.bi .len (.cons true (.nm 2) .nil)))) .nil))))   (.cons (.ite (.and (.cmp .ne true (.ix true (.nm 9) (.cst (.int 0))) (.ix true (.nm 9) (.cst (.int 1)))) (.and (.cmp .lt true (.bi .len (.cons true (.nm 4) .nil)) (.cst (.int 60))) (.one (.cmp .gt true (.call true 11 (.io 0 (.cons true (.cst (.int 3)) .nil))) (.cst (.int 0)))))) (.cons (.asg (.nm 10) [] (.ix true (.lst (.cons true (.cst (.int 0)) (.cons true (.bin .add true (.cst (.int 1)) (.call true 11 (.io 0 (.cons true (.cst (.int 4)) .nil)))) (.cons true (.cst (.int 99)) (.cons true (.cst .non) (.cons true (.call true 11 (.io 0 (.cons true (.cst (.int 100)) .nil))) .nil)))))) (.call true 11 (.io 0 (.cons true (.cst (.int 5)) .nil)))))   (.cons (.ex (.mu .append (.sl 4) (.cons true (.bin .add true (.nm 9) (.tup (.cons true (.nm 10) .nil))) .nil)))   .nil)) .nil)   .nil))
theorem pS2_eq : pS2 = .for_ (.nm 8) [2] false (.rng1 (.bin .mul true (.bi .len (.cons true (.nm 2) .nil)) (.bi .len (.cons true (.nm 2) .nil)))) pB2 := rfl
def Src (nms : List Str) (k : Nat) (w : Wsh) : Prop := nms[k / nms.length]? = some w.1 ∧ nms[k % nms.length]? = some w.2.1
structure WInv (nms : List Str) (i : Nat) (ws : List Wsh) : Prop where
  wl : ws.length ≤ 60
  ok : WsOk ws
  src : ∀ w, w ∈ ws → ∃ k, k < i ∧ Src nms k w
  uni : Uni ws
theorem WInv.up {nms : List Str} {i : Nat} {ws : List Wsh} (h : WInv nms i ws) : WInv nms (i + 1) ws := ⟨h.wl, h.ok, fun w hw => by
  obtain ⟨k, hk, hs⟩ := h.src w hw
  exact ⟨k, by omega, hs⟩, h.uni⟩
theorem nodup_ix {α : Type} {xs : List α} (h : xs.Nodup) {i j : Nat} {x : α} (hi : xs[i]? = some x) (hj : xs[j]? = some x) : i = j := by
  obtain ⟨i1, e1⟩ := List.getElem?_eq_some_iff.mp hi
  obtain ⟨j1, e2⟩ := List.getElem?_eq_some_iff.mp hj
  rcases Nat.lt_trichotomy i j with q | q | q
  · exact absurd (e1.trans e2.symm) (List.pairwise_iff_getElem.mp h i j i1 j1 q)
  · exact q
  · exact absurd (e2.trans e1.symm) (List.pairwise_iff_getElem.mp h j i j1 i1 q)
theorem WInv.add {nms : List Str} {i : Nat} {ws : List Wsh} {w : Wsh} (nd : nms.Nodup) (h : WInv nms i ws) (hl : ws.length < 60) (hw : WshOk w) (hs : Src nms i w) : WInv nms (i + 1) (ws ++ [w]) := by
  have no : ∀ v, v ∈ ws → v.1 = w.1 → v.2.1 = w.2.1 → False := fun v hv e1 e2 => by
    obtain ⟨k, hk, s1, s2⟩ := h.src v hv
    rw [e1] at s1
    rw [e2] at s2
    have q1 := nodup_ix nd s1 hs.1
    have q2 := nodup_ix nd s2 hs.2
    have d1 := Nat.div_add_mod k nms.length
    have d2 := Nat.div_add_mod i nms.length
    rw [q1, q2, d2] at d1
    omega
  refine ⟨by simp; omega, fun v hv => (List.mem_append.mp hv).elim (h.ok v) fun e => by rw [List.mem_singleton.mp e]; exact hw, fun v hv => ?_, fun x y hx hy e1 e2 => ?_⟩
  · rcases List.mem_append.mp hv with hv | hv
    · obtain ⟨k, hk, hs⟩ := h.src v hv
      exact ⟨k, by omega, hs⟩
    · rw [List.mem_singleton.mp hv]
      exact ⟨i, by omega, hs⟩
  · rcases List.mem_append.mp hx with hx | hx <;> rcases List.mem_append.mp hy with hy | hy
    · exact h.uni x y hx hy e1 e2
    · rw [List.mem_singleton.mp hy] at e1 e2
      exact (no x hx e1 e2).elim
    · rw [List.mem_singleton.mp hx] at e1 e2
      exact (no y hy e1.symm e2.symm).elim
    · rw [List.mem_singleton.mp hx, List.mem_singleton.mp hy]
theorem p2_ {n wf b : Nat} {m L : Int} {s : D} {nms : List Str} {cs : List Col} {u5 u6 u7 : Option D} (hn : 2 ≤ n) (hs : St b s) (hb : b ≤ 700000) (eL : L = nms.length) (h1 : 1 ≤ nms.length) (hl : nms.length ≤ 12) (ok : NsOk nms) : ∃ (s' : D) (ws : List Wsh) (u8 u9 u10 : Option D), denS (callD fns wf n) wf pS2 [some s, some (.int m), some (.lst true (nms.map .str)), some (.lst true (cs.map colD)), some (.lst true []), u5, u6, u7, none, none, none] = .nx [some s', some (.int m), some (.lst false (nms.map .str)), some (.lst true (cs.map colD)), some (.lst true (ws.map wshD)), u5, u6, u7, u8, u9, u10] ∧ St (b + 720) s' ∧ ws.length ≤ 60 ∧ WsOk ws ∧ Uni ws := by
  have bl : biD .len [.lst false (nms.map .str)] = some (.int L) := by
    show some (D.int ((nms.map D.str).length : Nat)) = _
    rw [List.length_map, eL]
  obtain ⟨ρ', g0, s', ws, u8, u9, u10, st, wi, rfl⟩ := forL_run (fun i ρ => ∃ (s' : D) (ws : List Wsh) (u8 u9 u10 : Option D), St (b + 4 * i) s' ∧ WInv nms i ws ∧ ρ = [some s', some (.int m), some (.lst false (nms.map .str)), some (.lst true (cs.map colD)), some (.lst true (ws.map wshD)), u5, u6, u7, u8, u9, u10]) (f := forB (callD fns wf n) wf (.nm 8) pB2) (xs := rngL 0 (L * L).toNat) (fun i y ρ hy ⟨s1, ws, u8, u9, u10, st1, wi, e⟩ => by
    obtain ⟨rfl, hi⟩ := rngL_get hy
    subst e
    have hL : 1 ≤ L ∧ L ≤ 12 := by omega
    have hLL : L * L ≤ 144 := by
      have : L * L ≤ 12 * 12 := Int.mul_le_mul (by omega) (by omega) (by omega) (by omega)
      omega
    have hi2 : i < nms.length * nms.length := by
      have : (L * L).toNat = nms.length * nms.length := by rw [eL, ← Int.natCast_mul]; rfl
      omega
    have d1 : i / nms.length < nms.length := Nat.div_lt_of_lt_mul hi2
    have d2 : i % nms.length < nms.length := Nat.mod_lt _ (by omega)
    obtain ⟨x, hx⟩ : ∃ x, nms[i / nms.length]? = some x := ⟨_, List.getElem?_eq_getElem d1⟩
    obtain ⟨y, hy⟩ : ∃ y, nms[i % nms.length]? = some y := ⟨_, List.getElem?_eq_getElem d2⟩
    have a1 : atI (nms.map D.str) ((i : Int) / L) = some (.str x) := by
      rw [eL, ← Int.natCast_ediv]
      exact Mn.atI_nat (by rw [List.getElem?_map, hx]; rfl)
    have a2 : atI (nms.map D.str) ((i : Int) % L) = some (.str y) := by
      rw [eL, ← Int.natCast_emod]
      exact Mn.atI_nat (by rw [List.getElem?_map, hy]; rfl)
    have lgL : L.natAbs.log2 < 9000 := log_m hL.1 (by omega)
    have L0 : 0 < L := by omega
    have wl := wi.wl
    have same : ∀ (o : O) (s6 : D) (u9 u10 : Option D), St (b + 4 * i + 4) s6 → o = O.nx [some s6, some (.int m), some (.lst false (nms.map .str)), some (.lst true (cs.map colD)), some (.lst true (ws.map wshD)), u5, u6, u7, some (.int (i : Nat)), u9, u10] →
        ∃ ρ', (o = .nx ρ' ∨ o = .ct ρ') ∧ ∃ (s' : D) (ws : List Wsh) (u8 u9 u10 : Option D), St (b + 4 * (i + 1)) s' ∧ WInv nms (i + 1) ws ∧ ρ' = [some s', some (.int m), some (.lst false (nms.map .str)), some (.lst true (cs.map colD)), some (.lst true (ws.map wshD)), u5, u6, u7, u8, u9, u10] := fun o s6 u9 u10 h6 e =>
      ⟨_, .inl e, s6, ws, _, _, _, h6, wi.up, rfl⟩
    rw [forB]
    unfold pB2
    by_cases hxy : x = y
    · refine same _ s1 (some (.tup [.str x, .str y])) u10 (st1.up (by omega)) ?_
      simp [-f_lenL, bl, a1, a2, lgL, L0, sizeLine, k_ne, hxy]
    · have hne : (x == y) = false := beq_false_of_ne hxy
      by_cases hw : (ws.length : Int) < 60
      · obtain ⟨a3, s3, e3, st3, nf3, p3, q3⟩ := take (n := n) (wf := wf) (m := 3) (by omega) st1 (by omega) (by omega) (by omega)
        have hw' : ws.length < 60 := by omega
        by_cases h3 : 0 < a3
        · obtain ⟨a4, s4, e4, st4, nf4, p4, q4⟩ := take (n := n) (wf := wf) (m := 4) (by omega) st3 (by omega) (by omega) (by omega)
          obtain ⟨a5, s5, e5, st5, nf5, p5, q5⟩ := take (n := n) (wf := wf) (m := 100) (by omega) st4 (by omega) (by omega) (by omega)
          obtain ⟨a6, s6, e6, st6, nf6, p6, q6⟩ := take (n := n) (wf := wf) (m := 5) (by omega) st5 (by omega) (by omega) (by omega)
          have key : ∃ h : Option Int, atI [D.int 0, .int (1 + a4), .int 99, .non, .int a5] a6 = some (hrD h) ∧ ∀ v, h = some v → 0 ≤ v ∧ v ≤ 99 := by
            obtain ⟨z, ez, hz⟩ := atI_mem (zs := [D.int 0, .int (1 + a4), .int 99, .non, .int a5]) p6 (by simpa using q6)
            simp at hz
            rcases hz with rfl | rfl | rfl | rfl | rfl
            · exact ⟨some 0, ez, fun v e => by cases e; omega⟩
            · exact ⟨some (1 + a4), ez, fun v e => by cases e; omega⟩
            · exact ⟨some 99, ez, fun v e => by cases e; omega⟩
            · exact ⟨none, ez, fun v e => by cases e⟩
            · exact ⟨some a5, ez, fun v e => by cases e; omega⟩
          obtain ⟨h, fh, hh⟩ := key
          have wl2 : ws.length < 16777216 := by omega
          have wok : WshOk (x, y, h) := ⟨ok.1 x (List.mem_of_getElem? hx), ok.1 y (List.mem_of_getElem? hy), hxy, hh⟩
          refine ⟨[some s6, some (.int m), some (.lst false (nms.map .str)), some (.lst true (cs.map colD)), some (.lst true ((ws ++ [(x, y, h)]).map wshD)), u5, u6, u7, some (.int (i : Nat)), some (.tup [.str x, .str y]), some (hrD h)], .inl ?_, s6, ws ++ [(x, y, h)], _, _, _, st6.up (by omega), wi.add ok.2 hw' wok ⟨hx, hy⟩, rfl⟩
          have ew : (ws.map wshD).length = ws.length := List.length_map _
          simp [bl, a1, a2, lgL, L0, sizeLine, k_ne, hne, hw, hw', e3, nf3, h3, e4, nf4, e5, nf5, e6, nf6, fh, wl2, wshD]
        · refine same _ s3 (some (.tup [.str x, .str y])) u10 (st3.up (by omega)) ?_
          simp [bl, a1, a2, lgL, L0, sizeLine, k_ne, hne, hw, hw', e3, nf3, h3]
      · refine same _ s1 (some (.tup [.str x, .str y])) u10 (st1.up (by omega)) ?_
        have hw' : ¬ ws.length < 60 := by omega
        simp [bl, a1, a2, lgL, L0, sizeLine, k_ne, hne, hw, hw']) (ρ := [some s, some (.int m), some (.lst false (nms.map .str)), some (.lst true (cs.map colD)), some (.lst true []), u5, u6, u7, none, none, none]) ⟨s, [], none, none, none, by simpa using hs, ⟨by simp, fun _ z => (nomatch z), fun _ z => (nomatch z), fun _ _ z => (nomatch z)⟩, rfl⟩
  have hL : 1 ≤ L ∧ L ≤ 12 := by omega
  have hLL : L * L ≤ 144 ∧ 0 ≤ L * L := by
    have : L * L ≤ 12 * 12 := Int.mul_le_mul (by omega) (by omega) (by omega) (by omega)
    have := Int.mul_nonneg (show 0 ≤ L by omega) (show 0 ≤ L by omega)
    omega
  rw [rngL_len] at st wi
  refine ⟨s', ws, u8, u9, u10, ?_, st.up (by omega), wi.wl, wi.ok, wi.uni⟩
  have sL : sm64 L = true := decide_eq_true ⟨by omega, by omega⟩
  have bL : big (L * L) = true := decide_eq_true ⟨by omega, by omega⟩
  rw [pS2_eq]
  generalize pB2 = B at g0
  have fz : frzs (nms.map D.str) = nms.map D.str := frzs_strs
  have nz : nfms (nms.map D.str) = true := nfms_mapf (fun _ => rfl) _
  generalize nms.map D.str = Z at g0 bl fz nz
  simp [-f_lenL, bl, sL, bL, g0, rngL_nfm, fz, nz, frzS, List.mapIdx_cons]
end Lawk13

namespace Lawk13
open PySem L2 Mn
theorem palette_ {n wf b : Nat} {m : Int} {s : D} (hn : 3 ≤ n) (hs : St b s) (hb : b ≤ 600000) (h1 : 1 ≤ m) (h2 : m ≤ 12) :
    ∃ (cs : List Col) (ws : List Wsh) (s' : D), callD fns wf n 13 [s, .int m] = some (palD cs ws, [s']) ∧ St (b + 820) s' ∧ nfm s' = true ∧ PalOk cs ws := by
  obtain ⟨k, rfl⟩ : ∃ k, n = k + 1 := ⟨n - 1, by omega⟩
  obtain ⟨s0, nms, e0, st0, n1, n2, ok⟩ := p0_ (n := k) (wf := wf) (m := m) (by omega) hs (by omega) h1 h2
  obtain ⟨s1, cs, u5, u6, u7, e1, st1, cl, cok⟩ := p1_ (n := k) (wf := wf) (m := m) (by omega) st0 (by omega) n2 ok
  obtain ⟨s2, ws, u8, u9, u10, e2, st2, wl, wok, uni⟩ := p2_ (n := k) (wf := wf) (m := m) (cs := cs) (u5 := u5) (u6 := u6) (u7 := u7) (by omega) st1 (by omega) rfl n1 n2 ok
  have c1 := sorted_D (o := false) (cols_sort (cs := cs))
  have c2 := sorted_D (o := false) (wshs_sort uni)
  rw [srtBy_map] at c1 c2
  have pc := srtBy_perm (lt := fun a b => tLt (colD a) (colD b)) (xs := cs)
  have pw := srtBy_perm (lt := fun a b => tLt (wshD a) (wshD b)) (xs := ws)
  generalize srtBy (fun a b => tLt (colD a) (colD b)) cs = cs' at c1 pc
  generalize srtBy (fun a b => tLt (wshD a) (wshD b)) ws = ws' at c2 pw
  have cl2 : cs.length = nms.length := by rw [← cl, List.length_map]
  refine ⟨cs', ws', s2, ?_, st2.up (by omega), st2.nf, ?_, ?_, fun c hc => cok c (pc.mem_iff.mp hc), (pc.map (·.1)).nodup_iff.mpr (by rw [cl]; exact ok.2), ?_, fun w hw => wok w (pw.mem_iff.mp hw)⟩
  · rw [callD_at (f := f_law_palette) rfl rfl]
    show runF f_law_palette (denSs _ _ b_law_palette [some s, some (.int m), none, none, none, none, none, none, none, none, none]) = _
    rw [pS_split, step_ e0, step_ e1, step_ e2]
    unfold pS3
    simp [c1, c2, palD, sizeLine, f_law_palette]
  · intro e
    rw [e] at pc
    have := pc.length_eq
    simp at this
    omega
  · rw [pc.length_eq]; omega
  · rw [pw.length_eq]; exact wl
def colF (cs : List Col) (z : Str) : Option Col := cs.find? fun c => c.1 == z
theorem colF_mem : ∀ {cs : List Col} {c : Col}, (cs.map (·.1)).Nodup → c ∈ cs → colF cs c.1 = some c
  | [], c, _, h => nomatch h
  | d :: cs, c, nd, h => by
    unfold colF
    rw [List.find?_cons]
    by_cases e : (d.1 == c.1) = true
    · rw [e]
      rcases List.mem_cons.mp h with rfl | h
      · rfl
      · have := (List.nodup_cons.mp nd).1
        exact absurd (show d.1 ∈ cs.map (·.1) by rw [eq_of_beq e]; exact List.mem_map_of_mem (f := (·.1)) h) this
    · have e : (d.1 == c.1) = false := by simpa using e
      rw [e]
      rcases List.mem_cons.mp h with rfl | h
      · simp at e
      · exact colF_mem (List.nodup_cons.mp nd).2 h
theorem colF_ok {cs : List Col} {z : Str} {c : Col} (h : colF cs z = some c) : c ∈ cs ∧ c.1 = z := ⟨List.mem_of_find?_eq_some h, eq_of_beq (List.find?_some (p := fun c : Col => c.1 == z) h)⟩
theorem drop_at {α : Type} {xs : List α} {i : Nat} {x : α} (h : xs[i]? = some x) : xs.drop i = x :: xs.drop (i + 1) := by
  obtain ⟨h1, h2⟩ := List.getElem?_eq_some_iff.mp h
  rw [← h2]
  exact List.drop_eq_getElem_cons h1
theorem pal_frz {cs : List Col} {ws : List Wsh} : frz (palD cs ws) = palD cs ws := by simp [palD, frzs]
theorem colrow_ {n wf : Nat} {cs : List Col} {ws : List Wsh} {z : Str} {c : Col} (h : colF cs z = some c) : callD fns wf (n + 1) 0 [palD cs ws, .str z] = some (colD c, []) := by
  rw [callD_at (f := f_colour_row) rfl rfl]
  show runF f_colour_row (denSs _ _ b_colour_row [some (palD cs ws), some (.str z), none]) = _
  unfold b_colour_row palD
  simp
  refine for_ret (C := fun o => runF f_colour_row o = some (colD c, [])) (fun i ρ => ∃ u2, colF (cs.drop i) z = some c ∧ ρ = [some (.tup [.tup (cs.map colD), .tup (ws.map wshD)]), some (.str z), u2]) (fun d ρ => d = colD c) ⟨none, h, rfl⟩ ?_ ?_ ?_
  · rintro i y ρ hy ⟨u2, hf, rfl⟩
    rw [List.getElem?_map] at hy
    obtain ⟨x, hx, rfl⟩ := Option.map_eq_some_iff.mp hy
    rw [drop_at hx] at hf
    unfold colF at hf
    rw [List.find?_cons] at hf
    by_cases hz : (x.1 == z) = true
    · rw [hz] at hf
      have e : x = c := Option.some.inj hf
      refine .inr ⟨colD x, [some (.tup [.tup (cs.map colD), .tup (ws.map wshD)]), some (.str z), none], ?_, by rw [e]⟩
      simp [forB, colD, k_eq, hz]
    · have hz : (x.1 == z) = false := by simpa using hz
      rw [hz] at hf
      refine .inl ⟨[some (.tup [.tup (cs.map colD), .tup (ws.map wshD)]), some (.str z), some (colD x)], .inl ?_, _, hf, rfl⟩
      simp [forB, colD, k_eq, hz]
  · rintro ρ ⟨u2, hf, rfl⟩
    rw [List.length_map, List.drop_eq_nil_of_le (Nat.le_refl _)] at hf
    cases hf
  · rintro d ρ rfl
    simp [f_colour_row]
def pW (a b : Str) (w : Wsh) : Bool := w.1 == a && w.2.1 == b
def washF (ws : List Wsh) (a b : Str) : Option Int := ((ws.find? (pW a b)).map (·.2.2)).getD (some 0)
theorem washfor_ {n wf : Nat} {cs : List Col} {ws : List Wsh} {a b : Str} {ca cb : Col} (ha : colF cs a = some ca) (hb : colF cs b = some cb) : callD fns wf (n + 2) 1 [palD cs ws, .str a, .str b] = some (hrD (washF ws a b), []) := by
  have e1 := colrow_ (n := n) (wf := wf) (ws := ws) ha
  have e2 := colrow_ (n := n) (wf := wf) (ws := ws) hb
  rw [callD_at (f := f_wash_for) rfl rfl]
  show runF f_wash_for (denSs _ _ b_wash_for [some (palD cs ws), some (.str a), some (.str b), none, none, none]) = _
  unfold b_wash_for
  have pf := pal_frz (cs := cs) (ws := ws)
  have nx : nfm (colD ca) = true := by simp [colD]
  have ix : ixD (palD cs ws) (.int 1) = some (.tup (ws.map wshD)) := by simp [palD, ixD, atI, ixN]
  simp [pf, e1, e2, ix]
  generalize palD cs ws = pal at *
  refine for_ret (C := fun o => runF f_wash_for o = some (hrD (washF ws a b), [])) (fun i ρ => ∃ u3 u4 u5, washF (ws.drop i) a b = washF ws a b ∧ ρ = [some pal, some (.str a), some (.str b), u3, u4, u5]) (fun d ρ => d = hrD (washF ws a b)) ⟨none, none, none, rfl, rfl⟩ ?_ ?_ ?_
  · rintro i y ρ hy ⟨u3, u4, u5, hf, rfl⟩
    rw [List.getElem?_map] at hy
    obtain ⟨x, hx, rfl⟩ := Option.map_eq_some_iff.mp hy
    rw [drop_at hx] at hf
    unfold washF at hf ⊢
    rw [List.find?_cons] at hf
    by_cases h1 : (x.1 == a) = true
    · by_cases h2 : (x.2.1 == b) = true
      · have hp : pW a b x = true := by unfold pW; rw [h1, h2]; rfl
        rw [hp] at hf
        rw [← hf]
        refine .inr ⟨hrD x.2.2, [some pal, some (.str a), some (.str b), some (.str x.1), some (.str x.2.1), none], ?_, rfl⟩
        simp [forB, wshD, k_eq, h1, h2]
      · have h2 : (x.2.1 == b) = false := by simpa using h2
        have hp : pW a b x = false := by unfold pW; rw [h2]; simp
        rw [hp] at hf
        refine .inl ⟨[some pal, some (.str a), some (.str b), some (.str x.1), some (.str x.2.1), some (hrD x.2.2)], .inl ?_, _, _, _, hf, rfl⟩
        simp [forB, wshD, k_eq, h1, h2]
    · have h1 : (x.1 == a) = false := by simpa using h1
      have hp : pW a b x = false := by unfold pW; rw [h1]; rfl
      rw [hp] at hf
      refine .inl ⟨[some pal, some (.str a), some (.str b), some (.str x.1), some (.str x.2.1), some (hrD x.2.2)], .inl ?_, _, _, _, hf, rfl⟩
      simp [forB, wshD, k_eq, h1]
  · rintro ρ ⟨u3, u4, u5, hf, rfl⟩
    rw [List.length_map, List.drop_eq_nil_of_le (Nat.le_refl _)] at hf
    rw [← hf]
    simp [f_wash_for, washF, hrD]
  · rintro d ρ rfl
    simp [f_wash_for]
def aD : Option Str → D
  | none => .non
  | some a => .str a
def pL (a : Option Str) (b : Str) (w : Wsh) : Bool := match a with
  | none => false
  | some a => pW a b w
def washL (ws : List Wsh) (a : Option Str) (b : Str) : Option Int := match a with
  | none => some 0
  | some a => washF ws a b
theorem cut2of3 {a b c : D} : cutL [a, b, c] none (some 2) = [a, b] := rfl
theorem cut13of4 {a b c d : D} : cutL [a, b, c, d] (some 1) (some 3) = [b, c] := rfl
theorem fm_filter {α β : Type} (p : α → Bool) (f : α → β) : ∀ xs : List α, xs.filterMap (fun x => if p x = true then some (f x) else none) = (xs.filter p).map f
  | [] => rfl
  | x :: xs => by
    rw [List.filterMap_cons, List.filter_cons]
    by_cases h : p x = true
    · simp only [h, if_true, List.map_cons, fm_filter p f xs]
    · simp only [h, fm_filter p f xs]
      simp
theorem wash_ {n wf : Nat} {cs : List Col} {ws : List Wsh} {a : Option Str} {b : Str} (hl : ws.length ≤ 60) : callD fns wf (n + 1) 14 [palD cs ws, aD a, .str b] = some (hrD (washL ws a b), []) := by
  rw [callD_at (f := f_law_wash) rfl rfl]
  show runF f_law_wash (denSs _ _ b_law_wash [some (palD cs ws), some (aD a), some (.str b), none, none]) = _
  have pf := pal_frz (cs := cs) (ws := ws)
  have ix : ixD (palD cs ws) (.int 1) = some (.tup (ws.map wshD)) := by simp [palD, ixD, atI, ixN]
  have na : nfm (aD a) = true := by cases a <;> rfl
  have fa : frz (aD a) = aD a := by cases a <;> rfl
  have oa : nod (aD a) = true := fz_nod fa
  have op : nod (palD cs ws) = true := fz_nod pf
  generalize palD cs ws = pal at *
  have eqa : ∀ w : Wsh, eqD (.tup [.str w.1, .str w.2.1]) (.tup [aD a, .str b]) = pL a b w := fun w => by
    cases a with
    | none => rfl
    | some a => simp [aD, pL, pW]
  have pla : ∀ k, Mn.plain k (aD a) = true := fun k => by cases a <;> (unfold Mn.plain; rfl)
  obtain ⟨ρ', g1, ⟨w', rfl⟩⟩ := lcL_map (own := [4]) (q := false) (body := lcB (callD fns wf n) (.nm 4) (.yes (.cmp .eq true (.sl true true (.nm 4) .no (.yes (.cst (.int 2)))) (.tup (.cons true (.nm 1) (.cons true (.nm 2) .nil))))) (.ix true (.nm 4) (.cst (.int 2)))) (zs := ws) (f := wshD) (fun w => if pL a b w = true then some (hrD w.2.2) else none) (fun x d _ e => by
      by_cases h : pL a b x = true
      · rw [if_pos h] at e; cases e; exact .inr (by simp)
      · rw [if_neg h] at e; cases e)
    (fun ρ => ∃ w, ρ = [some pal, some (aD a), some (.str b), none, w]) (fun w ρ _ ⟨u, e⟩ => by
      subst e
      refine ⟨[some pal, some (aD a), some (.str b), none, some (wshD w)], ⟨_, rfl⟩, ?_⟩
      have := eqa w
      by_cases h : pL a b w = true
      · simp [lcB, wipeS, wshD, cut2of3, sizeLine, k_eq, fa, pla, this, h]
      · have h : pL a b w = false := by simpa using h
        simp [lcB, wipeS, wshD, cut2of3, sizeLine, k_eq, fa, pla, this, h]) (ρ := [some pal, some (aD a), some (.str b), none, none]) ⟨none, rfl⟩
  rw [fm_filter] at g1
  have fl := List.length_filter_le (pL a b) ws
  have res : washL ws a b = (((ws.filter (pL a b)).head?).map (·.2.2)).getD (some 0) := by
    cases a with
    | none =>
      have : ws.filter (pL none b) = [] := List.filter_eq_nil_iff.mpr fun w _ h => by cases h
      rw [this]
      rfl
    | some a =>
      rw [List.head?_filter]
      rfl
  rw [res]
  generalize ws.filter (pL a b) = fs at g1 fl
  have fl2 : fs.length ≤ 16777216 := by omega
  unfold b_law_wash
  cases fs with
  | nil => simp [pf, ix, op, g1, restS, keptS, sizeLine, k_ne, f_law_wash, hrD]
  | cons f fs =>
    have a0 : atI (hrD f.2.2 :: fs.map fun w => hrD w.2.2) 0 = some (hrD f.2.2) := by simp [atI, ixN]
    have fn : frzs (fs.map fun w => hrD w.2.2) = fs.map fun w => hrD w.2.2 := frzs_mapf (fun w => hrD_frz) fs
    have nn : nfms (fs.map fun w => hrD w.2.2) = true := nfms_mapf (fun w => hrD_nfm) fs
    have pp : ∀ k, plains k (fs.map fun w => hrD w.2.2) = true := fun k => plains_flat fun x hx => by
      obtain ⟨w, _, rfl⟩ := List.mem_map.mp hx
      cases w.2.2 <;> rfl
    have p1 : ∀ k, Mn.plain k (hrD f.2.2) = true := fun k => by cases f.2.2 <;> (unfold Mn.plain; rfl)
    simp at fl2
    simp [pf, ix, op, g1, restS, keptS, sizeLine, k_ne, fl2, fn, nn, pp, p1, a0, f_law_wash]
theorem hours_ {n wf : Nat} {cs : List Col} {ws : List Wsh} {z : Str} {c : Col} (hl : cs.length ≤ 12) (h : colF cs z = some c) : callD fns wf (n + 1) 15 [palD cs ws, .str z] = some (.tup [.int c.2.1, .int c.2.2.1], []) := by
  rw [callD_at (f := f_law_hours) rfl rfl]
  show runF f_law_hours (denSs _ _ b_law_hours [some (palD cs ws), some (.str z), none]) = _
  have pf := pal_frz (cs := cs) (ws := ws)
  have ix : ixD (palD cs ws) (.int 0) = some (.tup (cs.map colD)) := by simp [palD, ixD, atI, ixN]
  have op : nod (palD cs ws) = true := fz_nod pf
  generalize palD cs ws = pal at *
  obtain ⟨ρ', g1, ⟨w', rfl⟩⟩ := lcL_map (own := [2]) (q := false) (body := lcB (callD fns wf n) (.nm 2) (.yes (.cmp .eq true (.ix true (.nm 2) (.cst (.int 0))) (.nm 1))) (.sl true true (.nm 2) (.yes (.cst (.int 1))) (.yes (.cst (.int 3))))) (zs := cs) (f := colD) (fun w => if (w.1 == z) = true then some (D.tup [.int w.2.1, .int w.2.2.1]) else none) (fun x d _ e => by
      by_cases h : (x.1 == z) = true
      · rw [if_pos h] at e; cases e; exact .inr rfl
      · rw [if_neg h] at e; cases e)
    (fun ρ => ∃ w, ρ = [some pal, some (.str z), w]) (fun w ρ _ ⟨u, e⟩ => by
      subst e
      refine ⟨[some pal, some (.str z), some (colD w)], ⟨_, rfl⟩, ?_⟩
      by_cases h : (w.1 == z) = true
      · simp [lcB, wipeS, colD, cut13of4, sizeLine, k_eq, h]
      · have h : (w.1 == z) = false := by simpa using h
        simp [lcB, wipeS, colD, cut13of4, sizeLine, k_eq, h]) (ρ := [some pal, some (.str z), none]) ⟨none, rfl⟩
  rw [fm_filter] at g1
  have fl := List.length_filter_le (fun w : Col => w.1 == z) cs
  have hd : (cs.filter (fun w : Col => w.1 == z)).head? = some c := by rw [List.head?_filter]; exact h
  generalize cs.filter (fun w : Col => w.1 == z) = fs at g1 fl hd
  have fl2 : fs.length ≤ 16777216 := by omega
  unfold b_law_hours
  cases fs with
  | nil => cases hd
  | cons f fs =>
    cases hd
    have a0 : ∀ xs : List D, atI (D.tup [.int c.2.1, .int c.2.2.1] :: xs) 0 = some (D.tup [.int c.2.1, .int c.2.2.1]) := fun xs => by simp [atI, ixN]
    have fn : frzs (fs.map fun w : Col => D.tup [.int w.2.1, .int w.2.2.1]) = fs.map fun w : Col => D.tup [.int w.2.1, .int w.2.2.1] := frzs_mapf (fun w => by simp [frzs]) fs
    simp at fl2
    simp [pf, ix, op, g1, restS, keptS, sizeLine, fl2, fn, a0, f_law_hours]
theorem ready_ {n wf : Nat} {cs : List Col} {ws : List Wsh} {z : Str} {c : Col} {t : Int} (h : colF cs z = some c) : callD fns wf (n + 2) 2 [palD cs ws, .str z, .int t] = some (.int (t + c.2.1 + c.2.2.1), []) := by
  have e1 := colrow_ (n := n) (wf := wf) (ws := ws) h
  rw [callD_at (f := f_ready_at) rfl rfl]
  show runF f_ready_at (denSs _ _ b_ready_at [some (palD cs ws), some (.str z), some (.int t), none, none, none, none]) = _
  have pf := pal_frz (cs := cs) (ws := ws)
  generalize palD cs ws = pal at *
  unfold b_ready_at
  simp [pf, e1, colD, f_ready_at]
end Lawk13

namespace Lawk13
open PySem L2 Mn
abbrev Trn := Int × Str × Int × Int
def trnD (t : Trn) : D := .tup [.int t.1, .str t.2.1, .int t.2.2.1, .int t.2.2.2]
@[simp] theorem trns_frz {ts : List Trn} : frzs (ts.map trnD) = ts.map trnD := frzs_mapf (fun a => by simp [trnD]) ts
@[simp] theorem trns_nfm {ts : List Trn} : nfms (ts.map trnD) = true := nfms_mapf (fun a => by simp [trnD]) ts
structure TrnOk (cs : List Col) (B : Int) (t : Trn) : Prop where
  nm : NmOk 8 t.2.1
  a0 : 0 ≤ t.1
  lt : t.2.2.1 < t.2.2.2
  hB : t.2.2.2 ≤ B
  col : ∃ c, colF cs t.2.1 = some c ∧ t.1 + c.2.1 + c.2.2.1 ≤ t.2.2.1
def Nmd (cs : List Col) (ts : List Trn) : Prop := ∀ t, t ∈ ts → ∃ c, colF cs t.2.1 = some c
/-- turns without fault -/
structure Good (cs : List Col) (ws : List Wsh) (B : Int) (ts : List Trn) : Prop where
  ok : ∀ t, t ∈ ts → TrnOk cs B t
  gap : ∀ i a t, ts[i]? = some a → ts[i + 1]? = some t → ∃ w, washF ws a.2.1 t.2.1 = some w ∧ a.2.2.2 + w ≤ t.1
theorem Good.up {cs : List Col} {ws : List Wsh} {B C : Int} {ts : List Trn} (h : Good cs ws B ts) (hc : B ≤ C) : Good cs ws C ts := ⟨fun t ht => ⟨(h.ok t ht).nm, (h.ok t ht).a0, (h.ok t ht).lt, by have := (h.ok t ht).hB; omega, (h.ok t ht).col⟩, h.gap⟩
theorem Good.add {cs : List Col} {ws : List Wsh} {B : Int} {ts : List Trn} {t : Trn} (h : Good cs ws B ts) (ht : TrnOk cs B t) (hg : ∀ a, ts.getLast? = some a → ∃ w, washF ws a.2.1 t.2.1 = some w ∧ a.2.2.2 + w ≤ t.1) : Good cs ws B (ts ++ [t]) := by
  refine ⟨fun u hu => (List.mem_append.mp hu).elim (h.ok u) fun e => by rw [List.mem_singleton.mp e]; exact ht, fun i a u ha hu => ?_⟩
  by_cases hi : i + 1 < ts.length
  · rw [List.getElem?_append_left (by omega)] at ha
    rw [List.getElem?_append_left hi] at hu
    exact h.gap i a u ha hu
  · have hlt := (List.getElem?_eq_some_iff.mp hu).1
    rw [List.length_append, List.length_singleton] at hlt
    have e : ts.length = i + 1 := by omega
    rw [List.getElem?_append_right (by omega), e, Nat.sub_self] at hu
    cases hu
    rw [List.getElem?_append_left (by omega)] at ha
    refine hg a ?_
    rw [List.getLast?_eq_getElem?, e]
    exact ha
theorem washF_self {ws : List Wsh} (h : WsOk ws) (a : Str) : washF ws a a = some 0 := by
  unfold washF
  rw [List.find?_eq_none.mpr fun w hw e => by
    obtain ⟨h1, h2⟩ := (Bool.and_eq_true _ _).mp e
    exact (h w hw).2.2.1 ((eq_of_beq h1).trans (eq_of_beq h2).symm)]
  rfl
theorem washF_range {ws : List Wsh} (h : WsOk ws) {a b : Str} {v : Int} (e : washF ws a b = some v) : 0 ≤ v ∧ v ≤ 99 := by
  unfold washF at e
  cases hf : ws.find? (pW a b) with
  | none => rw [hf] at e; cases e; omega
  | some w => rw [hf] at e; exact (h w (List.mem_of_find?_eq_some hf)).2.2.2 v e
theorem washL_range {ws : List Wsh} (h : WsOk ws) {a : Option Str} {b : Str} {v : Int} (e : washL ws a b = some v) : 0 ≤ v ∧ v ≤ 99 := by
  cases a with
  | none => cases e; omega
  | some a => exact washF_range h e
def tS0 : S := (.asg (.tup (.cons (.nm 3) (.cons (.nm 4) (.cons (.nm 5) .nil)))) [] (.tup (.cons true (.lst .nil) (.cons true (.ix true (.lst (.cons true (.cst (.int 0)) (.cons true (.cst (.int 1)) (.cons true (.call true 11 (.io 0 (.cons true (.cst (.int 60)) .nil))) .nil)))) (.call true 11 (.io 0 (.cons true (.cst (.int 3)) .nil)))) (.cons true (.cst .non) .nil)))))
def tS1 : S := (.for_ (.nm 6) [2] true (.rng1 (.nm 2)) (.cons (.asg (.nm 7) [1, 5, 17] (.lc [17] true false (.nm 17) [1] (.seq (.ix true (.nm 1) (.cst (.int 0)))) (.yes (.cmp .isn true (.call true 14 (.cons true (.nm 1) (.cons true (.nm 5) (.cons true (.ix true (.nm 17) (.cst (.int 0))) .nil)))) (.cst .non))) (.nm 17)))   (.cons (.asg (.tup (.cons (.nm 8) (.cons (.nm 9) (.cons (.nm 10) (.cons (.nm 11) .nil))))) [7] (.ix true (.nm 7) (.call true 11 (.io 0 (.cons true (.bi .len (.cons true (.nm 7) .nil)) .nil)))))   (.cons (.asg (.nm 12) [4, 1, 5, 8] (.bin .add true (.bin .add true (.nm 4) (.call true 14 (.cons true (.nm 1) (.cons true (.nm 5) (.cons true (.nm 8) .nil))))) (.ix true (.lst (.cons true (.cst (.int 0)) (.cons true (.cst (.int 1)) (.cons true (.call true 11 (.io 0 (.cons true (.cst (.int 4)) .nil))) (.cons true (.call true 11 (.io 0 (.cons true (.cst (.int 40)) .nil))) .nil))))) (.call true 11 (.io 0 (.cons true (.cst (.int 4)) .nil))))))   (.cons (.asg (.nm 13) [12, 9, 10] (.bin .add true (.bin .add true (.bin .add true (.nm 12) (.nm 9)) (.nm 10)) (.ix true (.lst (.cons true (.cst (.int 0)) (.cons true (.cst (.int 0)) (.cons true (.cst (.int 1)) (.cons true (.call true 11 (.io 0 (.cons true (.cst (.int 30)) .nil))) .nil))))) (.call true 11 (.io 0 (.cons true (.cst (.int 4)) .nil))))))   (.cons (.asg (.tup (.cons (.nm 4) (.cons (.nm 5) .nil))) [13, 8] (.tup (.cons true (.bin .add true (.nm 13) (.ix true (.lst (.cons true (.cst (.int 1)) (.cons true (.bin .add true (.cst (.int 1)) (.call true 11 (.io 0 (.cons true (.cst (.int 4)) .nil)))) (.cons true (.bin .add true (.cst (.int 1)) (.call true 11 (.io 0 (.cons true (.cst (.int 90)) .nil)))) .nil)))) (.call true 11 (.io 0 (.cons true (.cst (.int 3)) .nil))))) (.cons true (.nm 8) .nil))))   (.cons (.ex (.mu .append (.sl 3) (.cons true (.tup (.cons true (.nm 12) (.cons true (.nm 8) (.cons true (.nm 13) (.cons true (.nm 4) .nil))))) .nil)))   .nil)))))))
def tS2 : S := (.asg (.nm 14) [4] (.bin .mul true (.bin .sub true (.bin .pow true (.cst (.int 10)) (.cst (.int 6))) (.nm 4)) (.bi .int (.cons true (.cmp .eq true (.call true 11 (.io 0 (.cons true (.cst (.int 8)) .nil))) (.cst (.int 0))) .nil))))
def tS3 : S := (.ret [3, 12, 14, 15, 13, 16] (.lc [12, 15, 13, 16] true false (.tup (.cons (.nm 12) (.cons (.nm 15) (.cons (.nm 13) (.cons (.nm 16) .nil))))) [3] (.seq (.nm 3)) .no (.tup (.cons true (.bin .add true (.nm 12) (.nm 14)) (.cons true (.nm 15) (.cons true (.bin .add true (.nm 13) (.nm 14)) (.cons true (.bin .add true (.nm 16) (.nm 14)) .nil)))))))
theorem tS_split : b_law_turns = (.cons tS0 (.cons tS1 (.cons tS2 (.cons tS3 .nil)))) := rfl
def tB1 : Ss := (.cons (.asg (.nm 7) [1, 5, 17] (.lc [17] true false (.nm 17) [1] (.seq (.ix true (.nm 1) (.cst (.int 0)))) (.yes (.cmp .isn true (.call true 14 (.cons true (.nm 1) (.cons true (.nm 5) (.cons true (.ix true (.nm 17) (.cst (.int 0))) .nil)))) (.cst .non))) (.nm 17)))   (.cons (.asg (.tup (.cons (.nm 8) (.cons (.nm 9) (.cons (.nm 10) (.cons (.nm 11) .nil))))) [7] (.ix true (.nm 7) (.call true 11 (.io 0 (.cons true (.bi .len (.cons true (.nm 7) .nil)) .nil)))))   (.cons (.asg (.nm 12) [4, 1, 5, 8] (.bin .add true (.bin .add true (.nm 4) (.call true 14 (.cons true (.nm 1) (.cons true (.nm 5) (.cons true (.nm 8) .nil))))) (.ix true (.lst (.cons true (.cst (.int 0)) (.cons true (.cst (.int 1)) (.cons true (.call true 11 (.io 0 (.cons true (.cst (.int 4)) .nil))) (.cons true (.call true 11 (.io 0 (.cons true (.cst (.int 40)) .nil))) .nil))))) (.call true 11 (.io 0 (.cons true (.cst (.int 4)) .nil))))))   (.cons (.asg (.nm 13) [12, 9, 10] (.bin .add true (.bin .add true (.bin .add true (.nm 12) (.nm 9)) (.nm 10)) (.ix true (.lst (.cons true (.cst (.int 0)) (.cons true (.cst (.int 0)) (.cons true (.cst (.int 1)) (.cons true (.call true 11 (.io 0 (.cons true (.cst (.int 30)) .nil))) .nil))))) (.call true 11 (.io 0 (.cons true (.cst (.int 4)) .nil))))))   (.cons (.asg (.tup (.cons (.nm 4) (.cons (.nm 5) .nil))) [13, 8] (.tup (.cons true (.bin .add true (.nm 13) (.ix true (.lst (.cons true (.cst (.int 1)) (.cons true (.bin .add true (.cst (.int 1)) (.call true 11 (.io 0 (.cons true (.cst (.int 4)) .nil)))) (.cons true (.bin .add true (.cst (.int 1)) (.call true 11 (.io 0 (.cons true (.cst (.int 90)) .nil)))) .nil)))) (.call true 11 (.io 0 (.cons true (.cst (.int 3)) .nil))))) (.cons true (.nm 8) .nil))))   (.cons (.ex (.mu .append (.sl 3) (.cons true (.tup (.cons true (.nm 12) (.cons true (.nm 8) (.cons true (.nm 13) (.cons true (.nm 4) .nil))))) .nil)))   .nil))))))
theorem tS1_eq : tS1 = .for_ (.nm 6) [2] true (.rng1 (.nm 2)) tB1 := rfl
theorem aD_some {x : Str} : aD (some x) = .str x := rfl
/-- where the next turn may begin -/
def Lnk (ts : List Trn) (free : Int) (last : Option Str) : Prop := (ts = [] ∧ last = none) ∨ ∃ t, ts.getLast? = some t ∧ last = some t.2.1 ∧ free = t.2.2.2
def fits (ws : List Wsh) (a : Option Str) (c : Col) : Bool := (washL ws a c.1).isSome
theorem some_ {n wf : Nat} {s v2 v3 v4 : D} {cs : List Col} {ws : List Wsh} {a : Option Str} {v6 v7 v8 v9 v10 v11 v12 v13 v14 v15 v16 u17 : Option D} (hn : 1 ≤ n) (hw : ws.length ≤ 60) : ∃ w17, lcL [17] false (lcB (callD fns wf n) (.nm 17) (.yes (.cmp .isn true (.call true 14 (.cons true (.nm 1) (.cons true (.nm 5) (.cons true (.ix true (.nm 17) (.cst (.int 0))) .nil)))) (.cst .non))) (.nm 17)) (cs.map colD) [some s, some (palD cs ws), some v2, some v3, some v4, some (aD a), v6, v7, v8, v9, v10, v11, v12, v13, v14, v15, v16, u17] =
    .ok ((cs.filter (fits ws a)).map colD) [some s, some (palD cs ws), some v2, some v3, some v4, some (aD a), v6, v7, v8, v9, v10, v11, v12, v13, v14, v15, v16, w17] := by
  obtain ⟨k, rfl⟩ : ∃ k, n = k + 1 := ⟨n - 1, by omega⟩
  have fa : frz (aD a) = aD a := by cases a <;> rfl
  have pf := pal_frz (cs := cs) (ws := ws)
  obtain ⟨ρ', g1, ⟨w', rfl⟩⟩ := lcL_map (own := [17]) (q := false) (body := lcB (callD fns wf (k + 1)) (.nm 17) (.yes (.cmp .isn true (.call true 14 (.cons true (.nm 1) (.cons true (.nm 5) (.cons true (.ix true (.nm 17) (.cst (.int 0))) .nil)))) (.cst .non))) (.nm 17)) (zs := cs) (f := colD) (fun c => if fits ws a c = true then some (colD c) else none) (fun x d _ e => by
      by_cases h : fits ws a x = true
      · rw [if_pos h] at e; cases e; exact .inr (by simp [colD])
      · rw [if_neg h] at e; cases e)
    (fun ρ => ∃ w, ρ = [some s, some (palD cs ws), some v2, some v3, some v4, some (aD a), v6, v7, v8, v9, v10, v11, v12, v13, v14, v15, v16, w]) (fun c ρ _ ⟨u, e⟩ => by
      subst e
      refine ⟨[some s, some (palD cs ws), some v2, some v3, some v4, some (aD a), v6, v7, v8, v9, v10, v11, v12, v13, v14, v15, v16, some (colD c)], ⟨_, rfl⟩, ?_⟩
      have e1 := wash_ (n := k) (wf := wf) (cs := cs) (ws := ws) (a := a) (b := c.1) hw
      unfold fits
      generalize palD cs ws = pal at *
      cases h : washL ws a c.1 with
      | none =>
        rw [h] at e1
        simp [lcB, wipeS, colD, fa, pf, e1, hrD]
      | some v =>
        rw [h] at e1
        simp [lcB, wipeS, colD, fa, pf, e1, hrD]) (ρ := [some s, some (palD cs ws), some v2, some v3, some v4, some (aD a), v6, v7, v8, v9, v10, v11, v12, v13, v14, v15, v16, u17]) ⟨u17, rfl⟩
  rw [fm_filter] at g1
  exact ⟨w', g1⟩
theorem turn_ {n wf b i : Nat} {m free : Int} {s : D} {cs : List Col} {ws : List Wsh} {ts : List Trn} {last : Option Str} {v6 v7 v8 v9 v10 v11 v12 v13 v17 : Option D} (hn : 2 ≤ n) (hs : St b s) (hb : b ≤ 700000) (hp : PalOk cs ws) (hi : i < 30) (tl : ts.length = i) (hg : Good cs ws (60 + 400 * i) ts) (f0 : 0 ≤ free) (f1 : free ≤ 60 + 400 * i) (hk : Lnk ts free last) :
    ∃ (s' : D) (t : Trn) (w7 w8 w9 w10 w11 w12 w13 w17 : Option D), denSs (callD fns wf n) wf tB1 [some s, some (palD cs ws), some (.int m), some (.lst true (ts.map trnD)), some (.int free), some (aD last), v6, v7, v8, v9, v10, v11, v12, v13, none, none, none, v17] =
      .nx [some s', some (palD cs ws), some (.int m), some (.lst true ((ts ++ [t]).map trnD)), some (.int t.2.2.2), some (aD (some t.2.1)), v6, w7, w8, w9, w10, w11, w12, w13, none, none, none, w17] ∧ St (b + 9) s' ∧ Good cs ws (60 + 400 * (i + 1 : Nat)) (ts ++ [t]) ∧ 0 ≤ t.2.2.2 ∧ t.2.2.2 ≤ 60 + 400 * (i + 1 : Nat) := by
  obtain ⟨k, rfl⟩ : ∃ k, n = k + 1 := ⟨n - 1, by omega⟩
  obtain ⟨w17, g17⟩ := some_ (n := k + 1) (wf := wf) (s := s) (v2 := .int m) (v3 := .lst true (ts.map trnD)) (v4 := .int free) (cs := cs) (ws := ws) (a := last) (v6 := v6) (v7 := v7) (v8 := v8) (v9 := v9) (v10 := v10) (v11 := v11) (v12 := v12) (v13 := v13) (v14 := none) (v15 := none) (v16 := none) (u17 := v17) (by omega) hp.wl
  have fne : cs.filter (fits ws last) ≠ [] := by
    rcases hk with ⟨e1, e2⟩ | ⟨t, e1, e2, e3⟩
    · subst e2
      obtain ⟨c, cs', e⟩ := List.exists_cons_of_ne_nil hp.ne
      have : c ∈ cs.filter (fits ws none) := List.mem_filter.mpr ⟨by rw [e]; exact List.mem_cons_self, rfl⟩
      intro z
      rw [z] at this
      cases this
    · subst e2
      obtain ⟨c, hc, _⟩ := (hg.ok t (List.mem_of_getLast? e1)).col
      obtain ⟨h1, h2⟩ := colF_ok hc
      have : c ∈ cs.filter (fits ws (some t.2.1)) := List.mem_filter.mpr ⟨h1, by
        show (washF ws t.2.1 c.1).isSome = true
        rw [h2, washF_self hp.wok]
        rfl⟩
      intro z
      rw [z] at this
      cases this
  have fl := List.length_filter_le (fits ws last) cs
  have cl := hp.cl
  have fmem : ∀ c, c ∈ cs.filter (fits ws last) → c ∈ cs ∧ fits ws last c = true := fun c hc => List.mem_filter.mp hc
  generalize cs.filter (fits ws last) = fs at g17 fne fl fmem
  have fpos : 0 < fs.length := List.length_pos_iff.mpr fne
  obtain ⟨a1, s1, e1, st1, nf1, p1, q1⟩ := take (n := k + 1) (wf := wf) (m := (fs.length : Int)) (by omega) hs (by omega) (by omega) (by omega)
  obtain ⟨z1, i1, m1⟩ := atI_mem (zs := fs.map colD) p1 (by simpa using q1)
  obtain ⟨c, hc, rfl⟩ := List.mem_map.mp m1
  obtain ⟨c1, c2⟩ := fmem c hc
  have ck := hp.cok c c1
  obtain ⟨w, hw⟩ := Option.isSome_iff_exists.mp c2
  have wr := washL_range hp.wok hw
  have e2 := wash_ (n := k) (wf := wf) (cs := cs) (ws := ws) (a := last) (b := c.1) hp.wl
  rw [hw] at e2
  obtain ⟨a3, s3, e3, st3, nf3, p3, q3⟩ := take (n := k + 1) (wf := wf) (m := 4) (by omega) st1 (by omega) (by omega) (by omega)
  obtain ⟨a4, s4, e4, st4, nf4, p4, q4⟩ := take (n := k + 1) (wf := wf) (m := 40) (by omega) st3 (by omega) (by omega) (by omega)
  obtain ⟨a5, s5, e5, st5, nf5, p5, q5⟩ := take (n := k + 1) (wf := wf) (m := 4) (by omega) st4 (by omega) (by omega) (by omega)
  obtain ⟨v5, i5, r5, t5⟩ := pick_int (zs := [D.int 0, .int 1, .int a3, .int a4]) (lo := 0) (hi := 39) p5 (by simpa using q5) fun z hz => by
    simp at hz
    rcases hz with rfl | rfl | rfl | rfl <;> exact ⟨_, rfl, by omega, by omega⟩
  obtain ⟨a6, s6, e6, st6, nf6, p6, q6⟩ := take (n := k + 1) (wf := wf) (m := 30) (by omega) st5 (by omega) (by omega) (by omega)
  obtain ⟨a7, s7, e7, st7, nf7, p7, q7⟩ := take (n := k + 1) (wf := wf) (m := 4) (by omega) st6 (by omega) (by omega) (by omega)
  obtain ⟨v7', i7, r7, t7⟩ := pick_int (zs := [D.int 0, .int 0, .int 1, .int a6]) (lo := 0) (hi := 29) p7 (by simpa using q7) fun z hz => by
    simp at hz
    rcases hz with rfl | rfl | rfl <;> exact ⟨_, rfl, by omega, by omega⟩
  obtain ⟨a8, s8, e8, st8, nf8, p8, q8⟩ := take (n := k + 1) (wf := wf) (m := 4) (by omega) st7 (by omega) (by omega) (by omega)
  obtain ⟨a9, s9, e9, st9, nf9, p9, q9⟩ := take (n := k + 1) (wf := wf) (m := 90) (by omega) st8 (by omega) (by omega) (by omega)
  obtain ⟨a10, s10, e10, st10, nf10, p10, q10⟩ := take (n := k + 1) (wf := wf) (m := 3) (by omega) st9 (by omega) (by omega) (by omega)
  obtain ⟨v10', i10, r10, t10⟩ := pick_int (zs := [D.int 1, .int (1 + a8), .int (1 + a9)]) (lo := 1) (hi := 90) p10 (by simpa using q10) fun z hz => by
    simp at hz
    rcases hz with rfl | rfl | rfl <;> exact ⟨_, rfl, by omega, by omega⟩
  have fl2 : fs.length ≤ 16777216 := by omega
  have tl2 : ts.length < 16777216 := by omega
  have fa : frz (aD last) = aD last := by cases last <;> rfl
  have na : nod (aD last) = true := fz_nod fa
  have pf := pal_frz (cs := cs) (ws := ws)
  have op : nod (palD cs ws) = true := fz_nod pf
  have ix : ixD (palD cs ws) (.int 0) = some (.tup (cs.map colD)) := by simp [palD, ixD, atI, ixN]
  obtain ⟨kc1, kc2, kc3, kc4⟩ := ck
  have tk : TrnOk cs (60 + 400 * (i + 1 : Nat)) (free + w + v5, c.1, free + w + v5 + c.2.1 + c.2.2.1 + v7', free + w + v5 + c.2.1 + c.2.2.1 + v7' + v10') := by
    refine ⟨kc1, ?_, ?_, ?_, c, colF_mem hp.nd c1, ?_⟩ <;> simp only <;> omega
  refine ⟨s10, (free + w + v5, c.1, free + w + v5 + c.2.1 + c.2.2.1 + v7', free + w + v5 + c.2.1 + c.2.2.1 + v7' + v10'), some (.lst true (fs.map colD)), some (.str c.1), some (.int c.2.1), some (.int c.2.2.1), some (.int c.2.2.2), some (.int (free + w + v5)), some (.int (free + w + v5 + c.2.1 + c.2.2.1 + v7')), keptS v17, ?_, st10.up (by omega), (hg.up (by omega)).add tk fun a ha => ?_, by simp only; omega, by simp only; omega⟩
  · generalize palD cs ws = pal at *
    unfold tB1
    simp [fa, na, pf, op, ix, g17, restS, keptS, sizeLine, fl2, e1, nf1, i1, colD, e2, hrD, e3, nf3, e4, nf4, e5, nf5, i5, e6, nf6, e7, nf7, i7, e8, nf8, e9, nf9, e10, nf10, i10, tl2, trnD, aD_some]
  · rcases hk with ⟨h1, _⟩ | ⟨t, h1, h2, h3⟩
    · rw [h1] at ha; cases ha
    · rw [h1] at ha
      cases ha
      subst h2
      exact ⟨w, hw, by simp only; omega⟩
end Lawk13

namespace Lawk13
open PySem L2 Mn
def shft (d : Int) (t : Trn) : Trn := (t.1 + d, t.2.1, t.2.2.1 + d, t.2.2.2 + d)
theorem Good.shift {cs : List Col} {ws : List Wsh} {B d : Int} {ts : List Trn} (h : Good cs ws B ts) (hd : 0 ≤ d) : Good cs ws (B + d) (ts.map (shft d)) := by
  refine ⟨fun t ht => ?_, fun i a t ha ht => ?_⟩
  · obtain ⟨u, hu, rfl⟩ := List.mem_map.mp ht
    obtain ⟨h1, h2, h3, h4, c, h5, h6⟩ := h.ok u hu
    exact ⟨h1, by simp only [shft]; omega, by simp only [shft]; omega, by simp only [shft]; omega, c, h5, by simp only [shft]; omega⟩
  · rw [List.getElem?_map] at ha ht
    obtain ⟨a', ha', rfl⟩ := Option.map_eq_some_iff.mp ha
    obtain ⟨t', ht', rfl⟩ := Option.map_eq_some_iff.mp ht
    obtain ⟨w, h1, h2⟩ := h.gap i a' t' ha' ht'
    exact ⟨w, h1, by simp only [shft]; omega⟩
theorem t0_ {n wf b : Nat} {m : Int} {s pal : D} (hn : 1 ≤ n) (hs : St b s) (hb : b ≤ 700000) : ∃ (s' : D) (f : Int), denS (callD fns wf n) wf tS0 [some s, some pal, some (.int m), none, none, none, none, none, none, none, none, none, none, none, none, none, none, none] = .nx [some s', some pal, some (.int m), some (.lst true []), some (.int f), some .non, none, none, none, none, none, none, none, none, none, none, none, none] ∧ St (b + 2) s' ∧ 0 ≤ f ∧ f ≤ 60 := by
  obtain ⟨a1, s1, e1, st1, nf1, p1, q1⟩ := take (n := n) (wf := wf) (m := 60) (by omega) hs (by omega) (by omega) (by omega)
  obtain ⟨a2, s2, e2, st2, nf2, p2, q2⟩ := take (n := n) (wf := wf) (m := 3) (by omega) st1 (by omega) (by omega) (by omega)
  obtain ⟨v2, i2, r2, t2⟩ := pick_int (zs := [D.int 0, .int 1, .int a1]) (lo := 0) (hi := 60) p2 (by simpa using q2) fun z hz => by
    simp at hz
    rcases hz with rfl | rfl | rfl <;> exact ⟨_, rfl, by omega, by omega⟩
  refine ⟨s2, v2, ?_, st2, r2, t2⟩
  unfold tS0
  simp [e1, nf1, e2, nf2, i2, sizeLine]
theorem t1_ {n wf b : Nat} {m f : Int} {s : D} {cs : List Col} {ws : List Wsh} (hn : 2 ≤ n) (hs : St b s) (hb : b ≤ 600000) (hp : PalOk cs ws) (h0 : 0 ≤ m) (h1 : m ≤ 30) (f0 : 0 ≤ f) (f1 : f ≤ 60) :
    ∃ (s' : D) (ts : List Trn) (free : Int) (last : Option Str) (w6 w7 w8 w9 w10 w11 w12 w13 w17 : Option D), denS (callD fns wf n) wf tS1 [some s, some (palD cs ws), some (.int m), some (.lst true []), some (.int f), some .non, none, none, none, none, none, none, none, none, none, none, none, none] =
      .nx [some s', some (palD cs ws), some (.int m), some (.lst true (ts.map trnD)), some (.int free), some (aD last), w6, w7, w8, w9, w10, w11, w12, w13, none, none, none, w17] ∧ St (b + 270) s' ∧ Good cs ws 12060 ts ∧ 0 ≤ free ∧ free ≤ 12060 ∧ (ts.length : Int) = m := by
  obtain ⟨ρ', g0, s', ts, free, last, w6, w7, w8, w9, w10, w11, w12, w13, w17, st, tl, hg, r0, r1, hk, rfl⟩ := forL_run (fun i ρ => ∃ (s' : D) (ts : List Trn) (free : Int) (last : Option Str) (w6 w7 w8 w9 w10 w11 w12 w13 w17 : Option D), St (b + 9 * i) s' ∧ ts.length = i ∧ Good cs ws (60 + 400 * (i : Nat)) ts ∧ 0 ≤ free ∧ free ≤ 60 + 400 * (i : Nat) ∧ Lnk ts free last ∧
      ρ = [some s', some (palD cs ws), some (.int m), some (.lst true (ts.map trnD)), some (.int free), some (aD last), w6, w7, w8, w9, w10, w11, w12, w13, none, none, none, w17]) (f := forB (callD fns wf n) wf (.nm 6) tB1) (xs := rngL 0 m.toNat) (fun i y ρ hy ⟨s1, ts, free, last, w6, w7, w8, w9, w10, w11, w12, w13, w17, st1, tl, hg, r0, r1, hk, e⟩ => by
    obtain ⟨rfl, hi⟩ := rngL_get hy
    subst e
    obtain ⟨s2, t, u7, u8, u9, u10, u11, u12, u13, u17, e2, st2, hg2, q0, q1⟩ := turn_ (n := n) (wf := wf) (m := m) (i := i) (v6 := some (.int (i : Nat))) (v7 := w7) (v8 := w8) (v9 := w9) (v10 := w10) (v11 := w11) (v12 := w12) (v13 := w13) (v17 := w17) hn st1 (by omega) hp (by omega) tl hg r0 r1 hk
    refine ⟨_, .inl ?_, s2, ts ++ [t], t.2.2.2, some t.2.1, some (.int (i : Nat)), u7, u8, u9, u10, u11, u12, u13, u17, st2.up (by omega), by simp [tl], hg2, q0, q1, .inr ⟨t, by simp, rfl, rfl⟩, rfl⟩
    rw [forB]
    generalize tB1 = B at *
    generalize palD cs ws = pal at *
    simp [e2]) (ρ := [some s, some (palD cs ws), some (.int m), some (.lst true []), some (.int f), some .non, none, none, none, none, none, none, none, none, none, none, none, none]) ⟨s, [], f, none, none, none, none, none, none, none, none, none, none, by simpa using hs, rfl, ⟨fun _ z => (nomatch z), fun i a t ha _ => by simp at ha⟩, f0, by simpa using f1, .inl ⟨rfl, rfl⟩, rfl⟩
  rw [rngL_len] at st tl hg r1
  refine ⟨s', ts, free, last, w6, w7, w8, w9, w10, w11, w12, w13, w17, ?_, st.up (by omega), hg.up (by omega), r0, by omega, by omega⟩
  have bm : big m = true := decide_eq_true ⟨by omega, by omega⟩
  rw [tS1_eq]
  generalize tB1 = B at g0
  generalize palD cs ws = pal at *
  simp [bm, g0, rngL_nfm]
theorem t2_ {n wf b : Nat} {m free : Int} {s pal v3 v5 : D} {w6 w7 w8 w9 w10 w11 w12 w13 w17 : Option D} (hn : 1 ≤ n) (hs : St b s) (hb : b ≤ 700000) (h0 : 0 ≤ free) (h1 : free ≤ 12060) : ∃ (s' : D) (d : Int), denS (callD fns wf n) wf tS2 [some s, some pal, some (.int m), some v3, some (.int free), some v5, w6, w7, w8, w9, w10, w11, w12, w13, none, none, none, w17] = .nx [some s', some pal, some (.int m), some v3, some (.int free), some v5, w6, w7, w8, w9, w10, w11, w12, w13, some (.int d), none, none, w17] ∧ St (b + 1) s' ∧ 0 ≤ d ∧ d ≤ 1000000 := by
  obtain ⟨a1, s1, e1, st1, nf1, p1, q1⟩ := take (n := n) (wf := wf) (m := 8) (by omega) hs (by omega) (by omega) (by omega)
  have sm : sm64 (1000000 - free) = true := decide_eq_true ⟨by omega, by omega⟩
  unfold tS2
  by_cases h : a1 = 0
  · subst h
    exact ⟨s1, 1000000 - free, by simp [e1, nf1, k_eq, sm], st1, by omega, by omega⟩
  · exact ⟨s1, 0, by simp [e1, nf1, k_eq, sm, beq_false_of_ne h], st1, by omega, by omega⟩
theorem t3_ {n wf : Nat} {m free d : Int} {s pal v5 : D} {ts : List Trn} {w6 w7 w8 w9 w10 w11 w12 w13 w17 : Option D} (hl : ts.length ≤ 30) : ∃ ρ', denS (callD fns wf n) wf tS3 [some s, some pal, some (.int m), some (.lst true (ts.map trnD)), some (.int free), some v5, w6, w7, w8, w9, w10, w11, w12, w13, some (.int d), none, none, w17] = .rt (.lst true ((ts.map (shft d)).map trnD)) (some s :: ρ') := by
  obtain ⟨ρ', g1, ⟨u12, u13, u15, u16, rfl⟩⟩ := lcL_map (own := [12, 15, 13, 16]) (q := false) (body := lcB (callD fns wf n) (.tup (.cons (.nm 12) (.cons (.nm 15) (.cons (.nm 13) (.cons (.nm 16) .nil))))) .no (.tup (.cons true (.bin .add true (.nm 12) (.nm 14)) (.cons true (.nm 15) (.cons true (.bin .add true (.nm 13) (.nm 14)) (.cons true (.bin .add true (.nm 16) (.nm 14)) .nil)))))) (zs := ts) (f := trnD) (fun t => some (trnD (shft d t))) (fun x d _ e => by cases e; exact .inr (by simp [trnD]))
    (fun ρ => ∃ u12 u13 u15 u16, ρ = [some s, some pal, some (.int m), some (.lst true (ts.map trnD)), some (.int free), some v5, w6, w7, w8, w9, w10, w11, u12, u13, some (.int d), u15, u16, w17]) (fun t ρ _ ⟨u12, u13, u15, u16, e⟩ => by
      subst e
      refine ⟨[some s, some pal, some (.int m), some (.lst true (ts.map trnD)), some (.int free), some v5, w6, w7, w8, w9, w10, w11, some (.int t.1), some (.int t.2.2.1), some (.int d), some (.str t.2.1), some (.int t.2.2.2), w17], ⟨_, _, _, _, rfl⟩, ?_⟩
      simp [lcB, wipeS, trnD, shft, sizeLine]) (ρ := [some s, some pal, some (.int m), some (.lst true (ts.map trnD)), some (.int free), some v5, w6, w7, w8, w9, w10, w11, w12, w13, some (.int d), none, none, w17]) ⟨w12, w13, none, none, rfl⟩
  rw [fm_map] at g1
  have em : ts.map (fun t => trnD (shft d t)) = (ts.map (shft d)).map trnD := by simp
  rw [em] at g1
  have hl2 : (ts.map (shft d)).length ≤ 16777216 := by rw [List.length_map]; omega
  generalize ts.map (shft d) = us at g1 hl2
  have nz : nods (ts.map trnD) = true := fz_nods trns_frz
  refine ⟨[some pal, some (.int m), some (.lst true (ts.map trnD)), some (.int free), some v5, w6, w7, w8, w9, w10, w11, keptS w12, keptS w13, some (.int d), none, none, w17], ?_⟩
  unfold tS3
  simp [nodS, nz, g1, restS, keptS, sizeLine, hl2]
theorem turns_ {n wf b : Nat} {m : Int} {s : D} {cs : List Col} {ws : List Wsh} (hn : 3 ≤ n) (hs : St b s) (hb : b ≤ 500000) (hp : PalOk cs ws) (h0 : 0 ≤ m) (h1 : m ≤ 30) :
    ∃ (ts : List Trn) (s' : D), callD fns wf n 16 [s, palD cs ws, .int m] = some (.lst true (ts.map trnD), [s']) ∧ St (b + 280) s' ∧ nfm s' = true ∧ Good cs ws 1100000 ts ∧ (ts.length : Int) = m := by
  obtain ⟨k, rfl⟩ : ∃ k, n = k + 1 := ⟨n - 1, by omega⟩
  obtain ⟨s0, f, e0, st0, f0, f1⟩ := t0_ (n := k) (wf := wf) (m := m) (pal := palD cs ws) (by omega) hs (by omega)
  obtain ⟨s1, ts, free, last, w6, w7, w8, w9, w10, w11, w12, w13, w17, e1, st1, hg, r0, r1, tl⟩ := t1_ (n := k) (wf := wf) (m := m) (by omega) st0 (by omega) hp h0 h1 f0 f1
  obtain ⟨s2, d, e2, st2, d0, d1⟩ := t2_ (n := k) (wf := wf) (m := m) (free := free) (pal := palD cs ws) (v3 := .lst true (ts.map trnD)) (v5 := aD last) (w6 := w6) (w7 := w7) (w8 := w8) (w9 := w9) (w10 := w10) (w11 := w11) (w12 := w12) (w13 := w13) (w17 := w17) (by omega) st1 (by omega) r0 r1
  obtain ⟨ρ', e3⟩ := t3_ (n := k) (wf := wf) (m := m) (free := free) (d := d) (s := s2) (pal := palD cs ws) (v5 := aD last) (ts := ts) (w6 := w6) (w7 := w7) (w8 := w8) (w9 := w9) (w10 := w10) (w11 := w11) (w12 := w12) (w13 := w13) (w17 := w17) (by omega)
  refine ⟨ts.map (shft d), s2, ?_, st2.up (by omega), st2.nf, (hg.shift d0).up (by omega), by rw [List.length_map]; exact tl⟩
  rw [callD_at (f := f_law_turns) rfl rfl]
  show runF f_law_turns (denSs _ _ b_law_turns [some s, some (palD cs ws), some (.int m), none, none, none, none, none, none, none, none, none, none, none, none, none, none, none]) = _
  rw [tS_split, step_ e0, step_ e1, step_ e2, ret_ e3]
  rfl
end Lawk13

namespace Lawk13
open PySem L2 Mn
mutual
def szD : D → Nat
  | .tup xs => szs xs
  | .lst _ xs => szs xs
  | _ => 0
def szs : List D → Nat
  | [] => 0
  | x :: xs => szD x + 1 + szs xs
end
theorem sz_mem : ∀ {xs : List D} {x : D}, x ∈ xs → szD x + 1 ≤ szs xs
  | y :: ys, x, m => by
    simp only [szs]
    rcases List.mem_cons.mp m with rfl | m
    · omega
    · have := sz_mem m
      omega
theorem len_szs : ∀ {xs : List D}, xs.length ≤ szs xs
  | [] => Nat.le_refl _
  | y :: ys => by
    have := len_szs (xs := ys)
    simp only [szs, List.length_cons]
    omega
theorem zip_self : ∀ xs : List D, zipL xs xs = xs.map fun x => D.tup [x, x]
  | [] => rfl
  | x :: xs => by rw [zipL, List.map_cons, zip_self]
theorem bls_rep : ∀ xs : List D, bls? (xs.map fun _ => D.bl true) = some (xs.map fun _ => true)
  | [] => rfl
  | x :: xs => by rw [List.map_cons, bls?, bls_rep]; rfl
theorem frzs_tup {xs : List D} (h : frz (.tup xs) = .tup xs) : frzs xs = xs := by rw [frz] at h; injection h
theorem frzs_lst {o : Bool} {xs : List D} (h : frz (.lst o xs) = .lst o xs) : o = false ∧ frzs xs = xs := by
  rw [frz] at h
  injection h with h1 h2
  exact ⟨h1.symm, h2⟩
theorem same_seq {n wf : Nat} {v : D} {xs : List D} (hl : xs.length ≤ 1000000) (fx : frzs xs = xs) (ih : ∀ x, x ∈ xs → callD fns wf n 17 [x, x] = some (.bl true, [])) (hv : v = .tup xs ∨ v = .lst false xs) : callD fns wf (n + 1) 17 [v, v] = some (.bl true, []) := by
  have fv : frz v = v := by rcases hv with rfl | rfl <;> simp [fx]
  have nv : nod v = true := fz_nod fv
  obtain ⟨ρ', g1, ⟨w2, w3, rfl⟩⟩ := lcL_map (own := [2, 3]) (q := false) (body := lcB (callD fns wf n) (.tup (.cons (.nm 2) (.cons (.nm 3) .nil))) .no (.call true 17 (.cons true (.nm 2) (.cons true (.nm 3) .nil)))) (zs := xs) (f := fun x => D.tup [x, x]) (fun _ => some (.bl true)) (fun x d _ e => by cases e; exact .inr rfl)
    (fun ρ => ∃ w2 w3, ρ = [some v, some v, w2, w3]) (fun x ρ hx ⟨w2, w3, e⟩ => by
      subst e
      refine ⟨[some v, some v, some x, some x], ⟨_, _, rfl⟩, ?_⟩
      have e1 := ih x hx
      have fz := fz_mem fx hx
      simp [lcB, wipeS, fz, e1]) (ρ := [some v, some v, none, none]) ⟨none, none, rfl⟩
  rw [fm_map] at g1
  have zl : zipD v v = some (xs.map fun x => D.tup [x, x]) := by
    rcases hv with rfl | rfl
    · show some (zipL xs xs) = _; rw [zip_self]
    · show some (zipL xs xs) = _; rw [zip_self]
  have ln : biD .len [v] = some (.int (xs.length : Nat)) := by rcases hv with rfl | rfl <;> rfl
  have al : biD .all [.lst false (xs.map fun _ => D.bl true)] = some (.bl true) := by
    show (bls? (xs.map fun _ => D.bl true)).map (fun bs => D.bl (bs.all id)) = _
    rw [bls_rep]
    have : (xs.map fun _ => true).all id = true := by simp
    rw [Option.map_some, this]
  have ty : (tyD v = some .tuple ∧ v = .tup xs) ∨ (tyD v = some .list ∧ v = .lst false xs) := by rcases hv with rfl | rfl <;> simp [tyD]
  have xl : xs.length ≤ 16777216 := by omega
  have fb : frzs (xs.map fun _ => D.bl true) = xs.map fun _ => D.bl true := frzs_mapf (fun _ => rfl) xs
  rw [callD_at (f := f_law_same) rfl rfl]
  show runF f_law_same (denSs _ _ b_law_same [some v, some v, none, none]) = _
  unfold b_law_same
  have ml : (xs.map fun _ => D.bl true).length = xs.length := List.length_map _
  generalize xs.map (fun _ => D.bl true) = bs at g1 al fb ml
  have bl : bs.length ≤ 16777216 := by omega
  rcases ty with ⟨ht, _⟩ | ⟨ht, _⟩
  · simp [-f_lenL, fv, nv, ht, isiT, ln, zl, g1, al, fb, bl, k_eq, k_ne, restS, keptS, nodS, sizeLine, f_law_same]
  · simp [-f_lenL, fv, nv, ht, isiT, ln, zl, g1, al, fb, bl, k_eq, k_ne, restS, keptS, nodS, sizeLine, f_law_same]
theorem same_ {wf : Nat} : ∀ (k n : Nat) (d : D), k + 1 ≤ n → okD d = true → frz d = d → dp d ≤ k → szD d ≤ 1000000 → callD fns wf n 17 [d, d] = some (.bl true, [])
  | k, n, d, hn, ok, fd, hk, hw => by
    obtain ⟨m, rfl⟩ : ∃ m, n = m + 1 := ⟨n - 1, by omega⟩
    have atom : (d = .non ∨ (∃ x, d = .bl x) ∨ (∃ x, d = .int x) ∨ ∃ x, d = .str x) → callD fns wf (m + 1) 17 [d, d] = some (.bl true, []) := by
      intro h
      rw [callD_at (f := f_law_same) rfl rfl]
      show runF f_law_same (denSs _ _ b_law_same [some d, some d, none, none]) = _
      unfold b_law_same
      rcases h with rfl | ⟨x, rfl⟩ | ⟨x, rfl⟩ | ⟨x, rfl⟩ <;> simp [isiT, k_eq, k_ne, f_law_same]
    match d, ok, fd, hk, hw, atom with
    | .non, _, _, _, _, atom => exact atom (.inl rfl)
    | .bl x, _, _, _, _, atom => exact atom (.inr (.inl ⟨x, rfl⟩))
    | .int x, _, _, _, _, atom => exact atom (.inr (.inr (.inl ⟨x, rfl⟩)))
    | .str x, _, _, _, _, atom => exact atom (.inr (.inr (.inr ⟨x, rfl⟩)))
    | .tup xs, ok, fd, hk, hw, _ =>
      simp only [dp] at hk
      have kd : 1 ≤ k := by omega
      have hw : szs xs ≤ 1000000 := hw
      have lw := len_szs (xs := xs)
      have fx := frzs_tup fd
      exact same_seq (by omega) fx (fun x hx => same_ (k - 1) m x (by omega) (ok_mem ok hx) (fz_mem fx hx) (by have := dp_mem hx; omega) (by have := sz_mem hx; omega)) (.inl rfl)
    | .lst o xs, ok, fd, hk, hw, _ =>
      simp only [dp] at hk
      have kd : 1 ≤ k := by omega
      have hw : szs xs ≤ 1000000 := hw
      have lw := len_szs (xs := xs)
      obtain ⟨rfl, fx⟩ := frzs_lst fd
      exact same_seq (by omega) fx (fun x hx => same_ (k - 1) m x (by omega) (ok_mem ok hx) (fz_mem fx hx) (by have := dp_mem hx; omega) (by have := sz_mem hx; omega)) (.inr rfl)
    | .scr _, ok, _, _, _, _ => exact absurd ok (by simp [okD])
    | .dk _ _ _, ok, _, _, _, _ => exact absurd ok (by simp [okD])
    | .ins _ _ _ _, ok, _, _, _, _ => exact absurd ok (by simp [okD])
termination_by k => k
end Lawk13

namespace Lawk13
open PySem L2 Mn
/-! what a pot is at an hour -/
theorem fstep {cf : Nat → List D → Option (D × List D)} {wf : Nat} {t : T} {b : Ss} {y : D} {ρ ρ1 : Mn.Env} {r : O} (h : denT cf t y ρ = .ok () ρ1) (h2 : denSs cf wf b ρ1 = r) : forB cf wf t b y ρ = r := by
  rw [forB, h]
  exact h2
theorem fone {cf : Nat → List D → Option (D × List D)} {wf : Nat} {s : S} {ρ ρ1 : Mn.Env} (h : denS cf wf s ρ = .nx ρ1) : denSs cf wf (.cons s .nil) ρ = .nx ρ1 := by rw [step_ h, zs_nil]
def lastK (ts : List Trn) (h : Int) : Nat → Option Nat
  | 0 => none
  | k + 1 => match ts[k]? with
    | some t => if t.1 ≤ h then some k else lastK ts h k
    | none => lastK ts h k
def endD : List (String × Int) → List D := fun l => l.map fun p => .tup [.str p.1, .int p.2]
def wordF (c : Col) (t : Trn) (w h : Int) : Str :=
  if h < t.1 + c.2.1 then "filled" else if h < t.1 + c.2.1 + c.2.2.1 then "melting" else if h < t.2.2.1 then "ready" else if h < t.2.2.2 then "worked" else if h < t.2.2.2 + w then "washed" else "out"
def wbF (ws : List Wsh) (ts : List Trn) (i : Nat) : Int := match ts[i]?, ts[i + 1]? with
  | some a, some t => (washF ws a.2.1 t.2.1).getD 0
  | _, _ => 0
abbrev Sta := Str × Option Nat
def staD (s : Sta) : D := .tup [.str s.1, match s.2 with | none => .non | some i => .int (i : Nat)]
def staV (cs : List Col) (ws : List Wsh) (ts : List Trn) (h : Int) : Option Nat → Sta
  | none => ("out", none)
  | some i => match ts[i]? with
    | some t => match colF cs t.2.1 with
      | some c => (wordF c t (wbF ws ts i) h, some i)
      | none => ("out", none)
    | none => ("out", none)
def stF (cs : List Col) (ws : List Wsh) (ts : List Trn) (h : Int) : Sta := staV cs ws ts h (lastK ts h ts.length)
/-- each may follow the one ahead -/
def Flw (ws : List Wsh) (ts : List Trn) : Prop := ∀ i a t, ts[i]? = some a → ts[i + 1]? = some t → ∃ w, washF ws a.2.1 t.2.1 = some w
theorem Good.flw {cs : List Col} {ws : List Wsh} {B : Int} {ts : List Trn} (h : Good cs ws B ts) : Flw ws ts := fun i a t h1 h2 => by
  obtain ⟨w, e, _⟩ := h.gap i a t h1 h2
  exact ⟨w, e⟩
theorem Good.nmd {cs : List Col} {ws : List Wsh} {B : Int} {ts : List Trn} (h : Good cs ws B ts) : Nmd cs ts := fun t ht => by
  obtain ⟨c, e, _⟩ := (h.ok t ht).col
  exact ⟨c, e⟩
theorem wends_ {n wf : Nat} {cs : List Col} {ws : List Wsh} {t : Trn} {c : Col} {w : Int} (hc : colF cs t.2.1 = some c) : callD fns wf (n + 3) 3 [palD cs ws, trnD t, .int w] =
    some (.lst true (endD [("filled", t.1 + c.2.1), ("melting", t.1 + c.2.1 + c.2.2.1), ("ready", t.2.2.1), ("worked", t.2.2.2), ("washed", t.2.2.2 + w)]), []) := by
  have e1 := colrow_ (n := n + 1) (wf := wf) (ws := ws) hc
  have e2 := ready_ (n := n) (wf := wf) (ws := ws) (t := t.1) hc
  have pf := pal_frz (cs := cs) (ws := ws)
  rw [callD_at (f := f_word_ends) rfl rfl]
  show runF f_word_ends (denSs _ _ b_word_ends [some (palD cs ws), some (trnD t), some (.int w), none, none, none, none, none, none]) = _
  generalize palD cs ws = pal at *
  unfold b_word_ends trnD
  simp [pf, e1, e2, colD, sizeLine, endD, f_word_ends]
theorem wordby_ {n wf : Nat} {cs : List Col} {ws : List Wsh} {t : Trn} {c : Col} {w h : Int} (hc : colF cs t.2.1 = some c) : callD fns wf (n + 4) 4 [palD cs ws, trnD t, .int w, .int h] = some (.str (wordF c t w h), []) := by
  have e1 := wends_ (n := n) (wf := wf) (ws := ws) (w := w) hc
  have pf := pal_frz (cs := cs) (ws := ws)
  have ft : frz (trnD t) = trnD t := by simp [trnD]
  rw [callD_at (f := f_word_by) rfl rfl]
  show runF f_word_by (denSs _ _ b_word_by [some (palD cs ws), some (trnD t), some (.int w), some (.int h), none, none]) = _
  unfold wordF
  generalize palD cs ws = pal at *
  generalize trnD t = T at *
  unfold b_word_by
  by_cases h1 : h < t.1 + c.2.1
  · simp [pf, ft, e1, endD, forL, forB, h1, f_word_by]
  · by_cases h2 : h < t.1 + c.2.1 + c.2.2.1
    · simp [pf, ft, e1, endD, forL, forB, h1, h2, f_word_by]
    · by_cases h3 : h < t.2.2.1
      · simp [pf, ft, e1, endD, forL, forB, h1, h2, h3, f_word_by]
      · by_cases h4 : h < t.2.2.2
        · simp [pf, ft, e1, endD, forL, forB, h1, h2, h3, h4, f_word_by]
        · by_cases h5 : h < t.2.2.2 + w
          · simp [pf, ft, e1, endD, forL, forB, h1, h2, h3, h4, h5, f_word_by]
          · simp [pf, ft, e1, endD, forL, forB, h1, h2, h3, h4, h5, f_word_by]
theorem washb_ {n wf i : Nat} {cs : List Col} {ws : List Wsh} {ts : List Trn} (hn : Nmd cs ts) (hf : Flw ws ts) (hi : i < ts.length) (hl : ts.length ≤ 100) : callD fns wf (n + 3) 5 [palD cs ws, .lst false (ts.map trnD), .int i] = some (.int (wbF ws ts i), []) := by
  obtain ⟨a, ha⟩ : ∃ a, ts[i]? = some a := ⟨_, List.getElem?_eq_getElem hi⟩
  have a1 : atI (ts.map trnD) (i : Int) = some (trnD a) := Mn.atI_nat (by rw [List.getElem?_map, ha]; rfl)
  have pf := pal_frz (cs := cs) (ws := ws)
  have fT := trns_frz (ts := ts)
  have lT : biD .len [.lst false (ts.map trnD)] = some (.int (ts.length : Int)) := by show some (D.int ((ts.map trnD).length : Nat)) = _; rw [List.length_map]
  have ta : trnD a = .tup [.int a.1, .str a.2.1, .int a.2.2.1, .int a.2.2.2] := rfl
  rw [callD_at (f := f_wash_behind) rfl rfl]
  show runF f_wash_behind (denSs _ _ b_wash_behind [some (palD cs ws), some (.lst false (ts.map trnD)), some (.int i)]) = _
  unfold wbF
  rw [ha]
  by_cases h : i + 1 = ts.length
  · rw [List.getElem?_eq_none (by omega)]
    have h' : (i : Int) + 1 = ts.length := by omega
    generalize palD cs ws = pal at *
    generalize ts.map trnD = T at *
    unfold b_wash_behind
    simp [-f_lenL, pf, fT, lT, k_eq, h', f_wash_behind]
  · obtain ⟨t, ht⟩ : ∃ t, ts[i + 1]? = some t := ⟨_, List.getElem?_eq_getElem (by omega)⟩
    have a2 : atI (ts.map trnD) ((i : Int) + 1) = some (trnD t) := by
      rw [show ((i : Int) + 1) = ((i + 1 : Nat) : Int) by omega]
      exact Mn.atI_nat (by rw [List.getElem?_map, ht]; rfl)
    obtain ⟨ca, hca⟩ := hn a (List.mem_of_getElem? ha)
    obtain ⟨ct, hct⟩ := hn t (List.mem_of_getElem? ht)
    obtain ⟨w, hw⟩ := hf i a t ha ht
    have e1 := washfor_ (n := n) (wf := wf) (ws := ws) hca hct
    rw [hw] at e1
    rw [ht]
    have h' : ((i : Int) + 1 == ts.length) = false := by simp; omega
    have tt : trnD t = .tup [.int t.1, .str t.2.1, .int t.2.2.1, .int t.2.2.2] := rfl
    generalize palD cs ws = pal at *
    generalize ts.map trnD = T at *
    unfold b_wash_behind
    simp [-f_lenL, pf, fT, lT, k_eq, h', a1, a2, ta, tt, e1, hw, hrD, f_wash_behind]
theorem enum_zip {α : Type} {f : α → D} : ∀ {xs : List α} {k : Nat}, enumL k (xs.map f) = (xs.zipIdx k).map fun p => .tup [.int (p.2 : Nat), f p.1]
  | [], k => rfl
  | x :: xs, k => by rw [List.map_cons, enumL, List.zipIdx_cons, List.map_cons, enum_zip]
theorem max_snoc {xs : List Int} {a : Int} (h : ∀ x, x ∈ xs → x ≤ a) : (xs ++ [a]).max? = some a := List.max?_eq_some_iff.mpr ⟨by simp, fun b hb => by
  rcases List.mem_append.mp hb with hb | hb
  · exact h b hb
  · rw [List.mem_singleton.mp hb]; exact Int.le_refl _⟩
theorem last_max {ts : List Trn} {h : Int} : ∀ k, k ≤ ts.length → ((((ts.take k).zipIdx.filter fun p => decide (p.1.1 ≤ h)).map fun p => ((p.2 : Nat) : Int)).max? = (lastK ts h k).map fun i : Nat => (i : Int)) ∧ ∀ x, x ∈ (((ts.take k).zipIdx.filter fun p => decide (p.1.1 ≤ h)).map fun p => ((p.2 : Nat) : Int)) → x < k
  | 0, _ => by simp [lastK]
  | k + 1, hk => by
    obtain ⟨t, ht⟩ : ∃ t, ts[k]? = some t := ⟨_, List.getElem?_eq_getElem (by omega)⟩
    obtain ⟨i1, i2⟩ := last_max (ts := ts) (h := h) k (by omega)
    have e : (ts.take (k + 1)).zipIdx = (ts.take k).zipIdx ++ [(t, k)] := by
      rw [List.take_add_one, ht, List.zipIdx_append]
      simp
      omega
    rw [e, List.filter_append, List.map_append]
    have ls : lastK ts h (k + 1) = if t.1 ≤ h then some k else lastK ts h k := by show (match ts[k]? with | some t => _ | none => _) = _; rw [ht]
    rw [ls]
    by_cases c : t.1 ≤ h
    · simp only [c, if_true, List.filter_cons, decide_true, List.filter_nil, List.map_cons, List.map_nil]
      refine ⟨by rw [max_snoc fun x hx => Int.le_of_lt (i2 x hx)]; rfl, fun x hx => ?_⟩
      rcases List.mem_append.mp hx with hx | hx
      · have := i2 x hx; omega
      · rw [List.mem_singleton.mp hx]; omega
    · simp only [c, if_false, List.filter_cons, decide_false, List.filter_nil, List.map_nil, List.append_nil, Bool.false_eq_true]
      exact ⟨i1, fun x hx => by have := i2 x hx; omega⟩
theorem lastf_ {n wf : Nat} {ts : List Trn} {h : Int} (hl : ts.length ≤ 100) : callD fns wf (n + 1) 6 [.lst false (ts.map trnD), .int h] = some (match lastK ts h ts.length with | none => .non | some i => .int (i : Nat), []) := by
  have fT := trns_frz (ts := ts)
  have nT : nods (ts.map trnD) = true := fz_nods fT
  obtain ⟨ρ1, g1, ⟨w2, w3, rfl⟩⟩ := lcL_map (own := [2, 3]) (q := false) (body := lcB (callD fns wf n) (.tup (.cons (.nm 2) (.cons (.nm 3) .nil))) (.yes (.cmp .le true (.ix true (.nm 3) (.cst (.int 0))) (.nm 1))) (.nm 2)) (zs := ts.zipIdx) (f := fun p => D.tup [.int (p.2 : Nat), trnD p.1]) (fun p => if decide (p.1.1 ≤ h) = true then some (.int (p.2 : Nat)) else none) (fun x d _ e => by
      by_cases c : decide (x.1.1 ≤ h) = true
      · rw [if_pos c] at e; cases e; exact .inr rfl
      · rw [if_neg c] at e; cases e)
    (fun ρ => ∃ w2 w3, ρ = [some (.lst false (ts.map trnD)), some (.int h), w2, w3]) (fun p ρ _ ⟨u2, u3, e⟩ => by
      subst e
      refine ⟨[some (.lst false (ts.map trnD)), some (.int h), some (.int (p.2 : Nat)), some (trnD p.1)], ⟨_, _, rfl⟩, ?_⟩
      by_cases c : p.1.1 ≤ h <;> simp [lcB, wipeS, trnD, c]) (ρ := [some (.lst false (ts.map trnD)), some (.int h), none, none]) ⟨none, none, rfl⟩
  rw [fm_filter (fun p : Trn × Nat => decide (p.1.1 ≤ h)) (fun p => D.int (p.2 : Nat))] at g1
  have mx := (last_max (ts := ts) (h := h) ts.length (Nat.le_refl _)).1
  rw [List.take_length] at mx
  have len := List.length_filter_le (fun p : Trn × Nat => decide (p.1.1 ≤ h)) ts.zipIdx
  rw [List.length_zipIdx] at len
  generalize ts.zipIdx.filter (fun p => decide (p.1.1 ≤ h)) = fs at g1 mx len
  rw [callD_at (f := f_last_filled) rfl rfl]
  show runF f_last_filled (denSs _ _ b_last_filled [some (.lst false (ts.map trnD)), some (.int h), none, none]) = _
  have li : ints? (fs.map fun p => D.int (p.2 : Nat)) = some (fs.map fun p => ((p.2 : Nat) : Int)) := by
    clear g1 mx len
    induction fs with
    | nil => rfl
    | cons f fs ih => rw [List.map_cons, ints?, ih]; rfl
  have fz : frzs (fs.map fun p : Trn × Nat => D.int (p.2 : Nat)) = fs.map fun p => D.int (p.2 : Nat) := frzs_mapf (fun _ => rfl) fs
  have len2 : (fs.map fun p : Trn × Nat => D.int (p.2 : Nat)).length ≤ 16777216 := by rw [List.length_map]; omega
  have hm : mxD false .non (.lst false (fs.map fun p : Trn × Nat => D.int (p.2 : Nat))) = some (match lastK ts h ts.length with | none => .non | some i => .int (i : Nat)) := by
    show (ints? _).map _ = _
    rw [li]
    show some ((Option.map D.int ((fs.map fun p => ((p.2 : Nat) : Int)).max?)).getD D.non) = _
    rw [mx]
    cases lastK ts h ts.length <;> rfl
  rw [← enum_zip] at g1
  generalize fs.map (fun p : Trn × Nat => D.int (p.2 : Nat)) = I at *
  generalize ts.map trnD = T at *
  unfold b_last_filled
  simp [fT, g1, nodS, nT, fz, restS, keptS, sizeLine, len2, hm, f_last_filled]
theorem lastK_lt {ts : List Trn} {h : Int} {i : Nat} : ∀ {k : Nat}, lastK ts h k = some i → i < k
  | 0, e => nomatch e
  | k + 1, e => by
    unfold lastK at e
    split at e
    · split at e
      · cases e; omega
      · have := lastK_lt e; omega
    · have := lastK_lt e; omega
theorem state_ {n wf : Nat} {cs : List Col} {ws : List Wsh} {ts : List Trn} {h : Int} (hn : Nmd cs ts) (hf : Flw ws ts) (hl : ts.length ≤ 100) : callD fns wf (n + 5) 7 [palD cs ws, .lst false (ts.map trnD), .int h] = some (staD (stF cs ws ts h), []) := by
  have e0 := lastf_ (n := n + 3) (wf := wf) (ts := ts) (h := h) hl
  have pf := pal_frz (cs := cs) (ws := ws)
  have fT := trns_frz (ts := ts)
  rw [callD_at (f := f_state_at) rfl rfl]
  show runF f_state_at (denSs _ _ b_state_at [some (palD cs ws), some (.lst false (ts.map trnD)), some (.int h), none]) = _
  unfold stF
  cases hL : lastK ts h ts.length with
  | none =>
    rw [hL] at e0
    generalize palD cs ws = pal at *
    generalize ts.map trnD = T at *
    unfold b_state_at
    simp [fT, e0, sizeLine, staV, staD, f_state_at]
  | some i =>
    rw [hL] at e0
    have hi := lastK_lt hL
    obtain ⟨t, ht⟩ : ∃ t, ts[i]? = some t := ⟨_, List.getElem?_eq_getElem hi⟩
    obtain ⟨c, hc⟩ := hn t (List.mem_of_getElem? ht)
    have e1 := washb_ (n := n + 1) (wf := wf) hn hf hi hl
    have e2 := wordby_ (n := n) (wf := wf) (ws := ws) (w := wbF ws ts i) (h := h) hc
    have a1 : atI (ts.map trnD) (i : Int) = some (trnD t) := Mn.atI_nat (by rw [List.getElem?_map, ht]; rfl)
    have ft : frz (trnD t) = trnD t := by simp [trnD]
    have sv : staV cs ws ts h (some i) = (wordF c t (wbF ws ts i) h, some i) := by unfold staV; simp only [ht, hc]
    rw [sv]
    generalize palD cs ws = pal at *
    generalize ts.map trnD = T at *
    generalize trnD t = tt at *
    unfold b_state_at
    simp [pf, fT, ft, e0, e1, e2, a1, sizeLine, staD, f_state_at]
theorem washbN {n wf i : Nat} {cs : List Col} {ws : List Wsh} {ts : List Trn} (h0 : 3 ≤ n) (hn : Nmd cs ts) (hf : Flw ws ts) (hi : i < ts.length) (hl : ts.length ≤ 100) : callD fns wf n 5 [palD cs ws, .lst false (ts.map trnD), .int i] = some (.int (wbF ws ts i), []) := by
  obtain ⟨k, rfl⟩ : ∃ k, n = k + 3 := ⟨n - 3, by omega⟩
  exact washb_ hn hf hi hl
theorem wendsN {n wf : Nat} {cs : List Col} {ws : List Wsh} {t : Trn} {c : Col} {w : Int} (h0 : 3 ≤ n) (hc : colF cs t.2.1 = some c) : callD fns wf n 3 [palD cs ws, trnD t, .int w] =
    some (.lst true (endD [("filled", t.1 + c.2.1), ("melting", t.1 + c.2.1 + c.2.2.1), ("ready", t.2.2.1), ("worked", t.2.2.2), ("washed", t.2.2.2 + w)]), []) := by
  obtain ⟨k, rfl⟩ : ∃ k, n = k + 3 := ⟨n - 3, by omega⟩
  exact wends_ hc
theorem stateN {n wf : Nat} {cs : List Col} {ws : List Wsh} {ts : List Trn} {h : Int} (h0 : 5 ≤ n) (hn : Nmd cs ts) (hf : Flw ws ts) (hl : ts.length ≤ 100) : callD fns wf n 7 [palD cs ws, .lst false (ts.map trnD), .int h] = some (staD (stF cs ws ts h), []) := by
  obtain ⟨k, rfl⟩ : ∃ k, n = k + 5 := ⟨n - 5, by omega⟩
  exact state_ hn hf hl
end Lawk13

namespace Lawk13
open PySem L2 Mn
/-- the hours of a turn rise -/
def OrdT (cs : List Col) (ts : List Trn) : Prop := ∀ t, t ∈ ts → ∀ c, colF cs t.2.1 = some c → t.1 ≤ t.1 + c.2.1 ∧ t.1 + c.2.1 ≤ t.1 + c.2.1 + c.2.2.1 ∧ t.1 + c.2.1 + c.2.2.1 ≤ t.2.2.1 ∧ t.2.2.1 ≤ t.2.2.2
theorem Good.ord {cs : List Col} {ws : List Wsh} {B : Int} {ts : List Trn} (hk : CsOk cs) (h : Good cs ws B ts) : OrdT cs ts := fun t ht c hc => by
  have g := h.ok t ht
  obtain ⟨c', e1, e2⟩ := g.col
  rw [hc] at e1
  cases e1
  obtain ⟨_, k1, k2, _⟩ := hk c (colF_ok hc).1
  have := g.lt
  omega
theorem wbF_nn {ws : List Wsh} {ts : List Trn} {i : Nat} (hw : WsOk ws) : 0 ≤ wbF ws ts i := by
  unfold wbF
  split
  · rename_i a t _ _
    cases h : washF ws a.2.1 t.2.1 with
    | none => exact Int.le_refl _
    | some w => exact (washF_range hw h).1
  · exact Int.le_refl _
theorem cut_one {α : Type} {xs : List α} {i : Nat} : cutL xs (some ((i : Int) + 1)) (some ((i : Int) + 2)) = (xs[i + 1]?).toList := by
  unfold cutL
  rw [show ((i : Int) + 1) = ((i + 1 : Nat) : Int) by omega, show ((i : Int) + 2) = ((i + 2 : Nat) : Int) by omega, show HT.sIx xs.length 0 (some ((i + 1 : Nat) : Int)) = min (i + 1) xs.length from HT.sIx_nat _ _ _, show HT.sIx xs.length xs.length (some ((i + 2 : Nat) : Int)) = min (i + 2) xs.length from HT.sIx_nat _ _ _]
  by_cases h : i + 1 < xs.length
  · rw [Nat.min_eq_left (by omega), Nat.min_eq_left (by omega), show i + 2 - (i + 1) = 1 by omega, List.drop_eq_getElem_cons h, List.getElem?_eq_getElem h]
    rfl
  · rw [List.getElem?_eq_none (by omega), Nat.min_eq_right (show xs.length ≤ i + 1 by omega), Nat.min_eq_right (show xs.length ≤ i + 2 by omega), List.drop_eq_nil_of_le (Nat.le_refl _), List.take_nil]
    rfl
theorem later_ {n wf i : Nat} {cs : List Col} {ws : List Wsh} {ts : List Trn} {a : Trn} (hp : PalOk cs ws) (hf : Flw ws ts) (ha : ts[i]? = some a) : (ts[i + 1]? = none ∧ wbF ws ts i = 0) ∨ ∃ u, ts[i + 1]? = some u ∧ callD fns wf (n + 1) 14 [palD cs ws, .str a.2.1, .str u.2.1] = some (.int (wbF ws ts i), []) := by
  unfold wbF
  rw [ha]
  cases h : ts[i + 1]? with
  | none => exact .inl ⟨rfl, rfl⟩
  | some u =>
    obtain ⟨w, hw⟩ := hf i a u ha h
    have e := wash_ (n := n) (wf := wf) (cs := cs) (ws := ws) (a := some a.2.1) (b := u.2.1) hp.wl
    have e2 : washL ws (some a.2.1) u.2.1 = some w := hw
    rw [e2] at e
    refine .inr ⟨u, rfl, ?_⟩
    simp only [hw, Option.getD_some]
    exact e
end Lawk13

namespace Lawk13
open PySem L2 Mn
/-! stretches -/
abbrev Seg := Sta × Int × Int
def numD : Option Nat → D
  | none => .non
  | some i => .int (i : Nat)
def segD (g : Seg) : D := .tup [.str g.1.1, numD g.1.2, .int g.2.1, .int g.2.2]
@[simp] theorem numD_frz {i : Option Nat} : frz (numD i) = numD i := by cases i <;> rfl
@[simp] theorem numD_nfm {i : Option Nat} : nfm (numD i) = true := by cases i <;> rfl
@[simp] theorem segs_frz {gs : List Seg} : frzs (gs.map segD) = gs.map segD := frzs_mapf (fun a => by simp [segD]) gs
@[simp] theorem segs_nfm {gs : List Seg} : nfms (gs.map segD) = true := nfms_mapf (fun a => by simp [segD]) gs
def bgn (ts : List Trn) (last : Int) (i : Nat) : Int := ((ts[i]?).map (·.1)).getD last
def turnSegs (c : Col) (t : Trn) (w : Int) (i : Nat) (nxt : Int) : List Seg :=
  [((Str.ofString "filled", some i), t.1, t.1 + c.2.1), ((Str.ofString "melting", some i), t.1 + c.2.1, t.1 + c.2.1 + c.2.2.1), ((Str.ofString "ready", some i), t.1 + c.2.1 + c.2.2.1, t.2.2.1), ((Str.ofString "worked", some i), t.2.2.1, t.2.2.2), ((Str.ofString "washed", some i), t.2.2.2, t.2.2.2 + w), ((Str.ofString "out", some i), t.2.2.2 + w, nxt)]
def tsg (cs : List Col) (ws : List Wsh) (ts : List Trn) (last : Int) (i : Nat) : List Seg := match ts[i]? with
  | none => []
  | some t => match colF cs t.2.1 with
    | none => []
    | some c => turnSegs c t (wbF ws ts i) i (bgn ts last (i + 1))
def segK (cs : List Col) (ws : List Wsh) (ts : List Trn) (last : Int) (k : Nat) : List Seg := ((Str.ofString "out", none), 0, bgn ts last 0) :: (List.range k).flatMap (tsg cs ws ts last)
theorem segK_succ {cs : List Col} {ws : List Wsh} {ts : List Trn} {last : Int} {k : Nat} : segK cs ws ts last (k + 1) = segK cs ws ts last k ++ tsg cs ws ts last k := by
  unfold segK
  rw [List.range_succ, List.flatMap_append]
  simp
theorem tsg_len {cs : List Col} {ws : List Wsh} {ts : List Trn} {last : Int} {k : Nat} : (tsg cs ws ts last k).length ≤ 6 := by
  unfold tsg
  split
  · simp
  · split <;> simp [turnSegs]
theorem segK_len {cs : List Col} {ws : List Wsh} {ts : List Trn} {last : Int} : ∀ k, (segK cs ws ts last k).length ≤ 1 + 6 * k
  | 0 => by simp [segK]
  | k + 1 => by
    rw [segK_succ, List.length_append]
    have := segK_len (cs := cs) (ws := ws) (ts := ts) (last := last) k
    have := tsg_len (cs := cs) (ws := ws) (ts := ts) (last := last) (k := k)
    omega
theorem allsB_ {n wf i : Nat} {last : Int} {cs : List Col} {ws : List Wsh} {ts : List Trn} {t : Trn} {c : Col} {fs : List Seg} {v7 v8 v9 : Option D} (hn : 3 ≤ n) (hm : Nmd cs ts) (hf : Flw ws ts) (hl : ts.length ≤ 100) (ht : ts[i]? = some t) (hc : colF cs t.2.1 = some c) (fl : fs.length ≤ 1000) :
    ∃ v7' v8' v9', denSs (callD fns wf n) wf ((.cons (.asg (.nm 7) [6] (.ix true (.nm 6) (.cst (.int 0)))) (.cons (.for_ (.tup (.cons (.nm 8) (.cons (.nm 9) .nil))) [0, 6, 1, 5] true (.seq (.call true 3 (.cons true (.nm 0) (.cons true (.nm 6) (.cons true (.call true 5 (.cons true (.nm 0) (.cons true (.nm 1) (.cons true (.nm 5) .nil)))) .nil))))) (.cons (.ex (.mu .append (.sl 4) (.cons true (.tup (.cons true (.nm 8) (.cons true (.nm 5) (.cons true (.nm 7) (.cons true (.nm 9) .nil))))) .nil))) (.cons (.asg (.nm 7) [9] (.nm 9)) .nil))) (.cons (.ex (.mu .append (.sl 4) (.cons true (.tup (.cons true (.glob "OUT" (.str "out")) (.cons true (.nm 5) (.cons true (.nm 7) (.cons true (.ix true (.nm 3) (.bin .add true (.nm 5) (.cst (.int 1)))) .nil))))) .nil))) .nil))) : Mn.Ss) [some (palD cs ws), some (.lst false (ts.map trnD)), some (.int last), some (.lst true ((ts.map (·.1) ++ [last]).map .int)), some (.lst true (fs.map segD)), some (.int (i : Nat)), some (trnD t), v7, v8, v9] =
      .nx [some (palD cs ws), some (.lst false (ts.map trnD)), some (.int last), some (.lst true ((ts.map (·.1) ++ [last]).map .int)), some (.lst true ((fs ++ turnSegs c t (wbF ws ts i) i (bgn ts last (i + 1))).map segD)), some (.int (i : Nat)), some (trnD t), v7', v8', v9'] := by
  have hi := (List.getElem?_eq_some_iff.mp ht).1
  have e1 := washbN (n := n) (wf := wf) hn hm hf hi hl
  have e2 := wendsN (n := n) (wf := wf) (ws := ws) (w := wbF ws ts i) hn hc
  have pf := pal_frz (cs := cs) (ws := ws)
  have fT := trns_frz (ts := ts)
  have ft : frz (trnD t) = trnD t := by simp [trnD]
  have i0 : ixD (trnD t) (.int 0) = some (.int t.1) := by simp [trnD]
  have nb : atI ((ts.map (·.1) ++ [last]).map D.int) ((i : Int) + 1) = some (.int (bgn ts last (i + 1))) := by
    rw [show ((i : Int) + 1) = ((i + 1 : Nat) : Int) by omega]
    refine Mn.atI_nat ?_
    rw [List.getElem?_map]
    unfold bgn
    by_cases q : i + 1 < ts.length
    · rw [List.getElem?_append_left (by simpa using q), List.getElem?_map]
      rw [List.getElem?_eq_getElem q]
      rfl
    · have : i + 1 = ts.length := by omega
      rw [List.getElem?_append_right (by simp; omega), this, List.getElem?_eq_none (Nat.le_refl _)]
      simp
  have ff := segs_frz (gs := fs)
  have lf : (fs.map segD).length ≤ 1000 := by rw [List.length_map]; exact fl
  have fB : frzs ((ts.map (·.1) ++ [last]).map D.int) = (ts.map (·.1) ++ [last]).map D.int := frzs_mapf (fun _ => rfl) _
  refine ⟨some (.int (t.2.2.2 + wbF ws ts i)), some (.str "washed"), some (.int (t.2.2.2 + wbF ws ts i)), ?_⟩
  rw [List.map_append (l₁ := fs)]
  generalize palD cs ws = pal at *
  generalize ts.map trnD = T at *
  generalize trnD t = tt at *
  generalize (ts.map (·.1) ++ [last]).map D.int = B at *
  generalize fs.map segD = F at *
  have l0 : F.length < 16777216 := by omega
  have l1 : F.length + 1 < 16777216 := by omega
  have l2 : F.length + 1 + 1 < 16777216 := by omega
  have l3 : F.length + 1 + 1 + 1 < 16777216 := by omega
  have l4 : F.length + 1 + 1 + 1 + 1 < 16777216 := by omega
  have l5 : F.length + 1 + 1 + 1 + 1 + 1 < 16777216 := by omega
  simp [pf, fT, ft, i0, e1, e2, nb, fB, endD, forL, forB, l0, l1, l2, l3, l4, l5, sizeLine, turnSegs, segD, numD]
theorem allstr_ {n wf : Nat} {last : Int} {cs : List Col} {ws : List Wsh} {ts : List Trn} (hn : 4 ≤ n) (hm : Nmd cs ts) (hf : Flw ws ts) (hl : ts.length ≤ 100) : callD fns wf n 8 [palD cs ws, .lst false (ts.map trnD), .int last] = some (.lst true ((segK cs ws ts last ts.length).map segD), []) := by
  obtain ⟨k, rfl⟩ : ∃ k, n = k + 1 := ⟨n - 1, by omega⟩
  rw [callD_at (f := f_all_stretches) rfl rfl]
  show runF f_all_stretches (denSs _ _ b_all_stretches [some (palD cs ws), some (.lst false (ts.map trnD)), some (.int last), none, none, none, none, none, none, none]) = _
  have pf := pal_frz (cs := cs) (ws := ws)
  have fT := trns_frz (ts := ts)
  have nT : nods (ts.map trnD) = true := fz_nods fT
  obtain ⟨ρ1, g1, ⟨w6, rfl⟩⟩ := lcL_map (own := [6]) (q := false) (body := lcB (callD fns wf k) (.nm 6) .no (.ix true (.nm 6) (.cst (.int 0)))) (zs := ts) (f := trnD) (fun t => some (.int t.1)) (fun x d _ e => by cases e; exact .inr rfl)
    (fun ρ => ∃ w, ρ = [some (palD cs ws), some (.lst false (ts.map trnD)), some (.int last), none, none, none, w, none, none, none]) (fun t ρ _ ⟨u, e⟩ => by
      subst e
      refine ⟨[some (palD cs ws), some (.lst false (ts.map trnD)), some (.int last), none, none, none, some (trnD t), none, none, none], ⟨_, rfl⟩, ?_⟩
      simp [lcB, wipeS, trnD]) (ρ := [some (palD cs ws), some (.lst false (ts.map trnD)), some (.int last), none, none, none, none, none, none, none]) ⟨none, rfl⟩
  rw [fm_map, show (fun t : Trn => D.int t.1) = D.int ∘ (fun t : Trn => t.1) from rfl, ← List.map_map] at g1
  have lb : (ts.map fun t : Trn => t.1).length = ts.length := List.length_map _
  have e0 : denS (callD fns wf k) wf ((.asg (.nm 3) [1, 6, 2] (.bin .add true (.lc [6] true false (.nm 6) [1] (.seq (.nm 1)) .no (.ix true (.nm 6) (.cst (.int 0)))) (.lst (.cons true (.nm 2) .nil)))) : Mn.S) [some (palD cs ws), some (.lst false (ts.map trnD)), some (.int last), none, none, none, none, none, none, none] = .nx [some (palD cs ws), some (.lst false (ts.map trnD)), some (.int last), some (.lst true ((ts.map (·.1) ++ [last]).map .int)), none, none, none, none, none, none] := by
    have fb : frzs ((ts.map fun t : Trn => t.1).map D.int) = (ts.map fun t : Trn => t.1).map D.int := frzs_mapf (fun _ => rfl) _
    have nb : nfms ((ts.map fun t : Trn => t.1).map D.int ++ [.int last]) = true := by rw [show [D.int last] = [last].map D.int from rfl, ← List.map_append]; exact nfms_mapf (fun _ => rfl) _
    have lb2 : ((ts.map fun t : Trn => t.1).map D.int).length + 1 ≤ 16777216 := by rw [List.length_map, lb]; omega
    have lb3 : ((ts.map fun t : Trn => t.1).map D.int).length ≤ 16777216 := by omega
    rw [List.map_append]
    generalize palD cs ws = pal at *
    generalize ts.map trnD = T at *
    generalize (ts.map fun t : Trn => t.1).map D.int = B at *
    simp [fT, g1, nodS, nT, fb, nb, lb2, lb3, restS, keptS, sizeLine, frzs_app]
  have b0 : atI ((ts.map (·.1) ++ [last]).map D.int) 0 = some (.int (bgn ts last 0)) := by
    unfold bgn
    cases ts with
    | nil => rfl
    | cons t ts => rw [List.map_cons, List.cons_append, List.map_cons, at_0]; rfl
  have fB : frzs ((ts.map (·.1) ++ [last]).map D.int) = (ts.map (·.1) ++ [last]).map D.int := frzs_mapf (fun _ => rfl) _
  have e1 : denS (callD fns wf k) wf ((.asg (.nm 4) [3] (.lst (.cons true (.tup (.cons true (.glob "OUT" (.str "out")) (.cons true (.cst .non) (.cons true (.cst (.int 0)) (.cons true (.ix true (.nm 3) (.cst (.int 0))) .nil))))) .nil))) : Mn.S) [some (palD cs ws), some (.lst false (ts.map trnD)), some (.int last), some (.lst true ((ts.map (·.1) ++ [last]).map .int)), none, none, none, none, none, none] = .nx [some (palD cs ws), some (.lst false (ts.map trnD)), some (.int last), some (.lst true ((ts.map (·.1) ++ [last]).map .int)), some (.lst true ((segK cs ws ts last 0).map segD)), none, none, none, none, none] := by
    generalize palD cs ws = pal at *
    generalize ts.map trnD = T at *
    generalize (ts.map (·.1) ++ [last]).map D.int = B at *
    simp [fB, b0, sizeLine, segK, segD, numD]
  obtain ⟨ρ', g, v5, v6, v7, v8, v9, rfl⟩ := forL_run (fun i ρ => ∃ v5 v6 v7 v8 v9 : Option D, ρ = [some (palD cs ws), some (.lst false (ts.map trnD)), some (.int last), some (.lst true ((ts.map (·.1) ++ [last]).map .int)), some (.lst true ((segK cs ws ts last i).map segD)), v5, v6, v7, v8, v9]) (f := forB (callD fns wf k) wf ((.tup (.cons (.nm 5) (.cons (.nm 6) .nil))) : Mn.T) ((.cons (.asg (.nm 7) [6] (.ix true (.nm 6) (.cst (.int 0)))) (.cons (.for_ (.tup (.cons (.nm 8) (.cons (.nm 9) .nil))) [0, 6, 1, 5] true (.seq (.call true 3 (.cons true (.nm 0) (.cons true (.nm 6) (.cons true (.call true 5 (.cons true (.nm 0) (.cons true (.nm 1) (.cons true (.nm 5) .nil)))) .nil))))) (.cons (.ex (.mu .append (.sl 4) (.cons true (.tup (.cons true (.nm 8) (.cons true (.nm 5) (.cons true (.nm 7) (.cons true (.nm 9) .nil))))) .nil))) (.cons (.asg (.nm 7) [9] (.nm 9)) .nil))) (.cons (.ex (.mu .append (.sl 4) (.cons true (.tup (.cons true (.glob "OUT" (.str "out")) (.cons true (.nm 5) (.cons true (.nm 7) (.cons true (.ix true (.nm 3) (.bin .add true (.nm 5) (.cst (.int 1)))) .nil))))) .nil))) .nil))) : Mn.Ss)) (xs := enumL 0 (ts.map trnD)) (fun i y ρ hy ⟨v5, v6, v7, v8, v9, e⟩ => by
    subst e
    rw [enum_get, List.getElem?_map, Option.map_map] at hy
    obtain ⟨t, ht, rfl⟩ := Option.map_eq_some_iff.mp hy
    have hi := (List.getElem?_eq_some_iff.mp ht).1
    obtain ⟨c, hc⟩ := hm t (List.mem_of_getElem? ht)
    have len := segK_len (cs := cs) (ws := ws) (ts := ts) (last := last) i
    obtain ⟨w7, w8, w9, e2⟩ := allsB_ (n := k) (wf := wf) (last := last) (fs := segK cs ws ts last i) (v7 := v7) (v8 := v8) (v9 := v9) (by omega) hm hf hl ht hc (by omega)
    have es : segK cs ws ts last (i + 1) = segK cs ws ts last i ++ turnSegs c t (wbF ws ts i) i (bgn ts last (i + 1)) := by
      rw [segK_succ]
      unfold tsg
      simp only [ht, hc]
    rw [show ((fun x => D.tup [D.int ((0 + i : Nat) : Int), x]) ∘ trnD) t = D.tup [.int (i : Nat), trnD t] by simp, es]
    exact ⟨_, .inl (fstep (by simp) e2), _, _, _, _, _, rfl⟩) (ρ := [some (palD cs ws), some (.lst false (ts.map trnD)), some (.int last), some (.lst true ((ts.map (·.1) ++ [last]).map .int)), some (.lst true ((segK cs ws ts last 0).map segD)), none, none, none, none, none]) ⟨none, none, none, none, none, rfl⟩
  rw [enum_len, List.length_map] at g
  have e2 : denS (callD fns wf k) wf ((.for_ (.tup (.cons (.nm 5) (.cons (.nm 6) .nil))) [1] false (.enum (.nm 1)) (.cons (.asg (.nm 7) [6] (.ix true (.nm 6) (.cst (.int 0)))) (.cons (.for_ (.tup (.cons (.nm 8) (.cons (.nm 9) .nil))) [0, 6, 1, 5] true (.seq (.call true 3 (.cons true (.nm 0) (.cons true (.nm 6) (.cons true (.call true 5 (.cons true (.nm 0) (.cons true (.nm 1) (.cons true (.nm 5) .nil)))) .nil))))) (.cons (.ex (.mu .append (.sl 4) (.cons true (.tup (.cons true (.nm 8) (.cons true (.nm 5) (.cons true (.nm 7) (.cons true (.nm 9) .nil))))) .nil))) (.cons (.asg (.nm 7) [9] (.nm 9)) .nil))) (.cons (.ex (.mu .append (.sl 4) (.cons true (.tup (.cons true (.glob "OUT" (.str "out")) (.cons true (.nm 5) (.cons true (.nm 7) (.cons true (.ix true (.nm 3) (.bin .add true (.nm 5) (.cst (.int 1)))) .nil))))) .nil))) .nil)))) : Mn.S) [some (palD cs ws), some (.lst false (ts.map trnD)), some (.int last), some (.lst true ((ts.map (·.1) ++ [last]).map .int)), some (.lst true ((segK cs ws ts last 0).map segD)), none, none, none, none, none] = .nx [some (palD cs ws), some (.lst false (ts.map trnD)), some (.int last), some (.lst true ((ts.map (·.1) ++ [last]).map .int)), some (.lst true ((segK cs ws ts last ts.length).map segD)), v5, v6, v7, v8, v9] := by
    generalize ((.cons (.asg (.nm 7) [6] (.ix true (.nm 6) (.cst (.int 0)))) (.cons (.for_ (.tup (.cons (.nm 8) (.cons (.nm 9) .nil))) [0, 6, 1, 5] true (.seq (.call true 3 (.cons true (.nm 0) (.cons true (.nm 6) (.cons true (.call true 5 (.cons true (.nm 0) (.cons true (.nm 1) (.cons true (.nm 5) .nil)))) .nil))))) (.cons (.ex (.mu .append (.sl 4) (.cons true (.tup (.cons true (.nm 8) (.cons true (.nm 5) (.cons true (.nm 7) (.cons true (.nm 9) .nil))))) .nil))) (.cons (.asg (.nm 7) [9] (.nm 9)) .nil))) (.cons (.ex (.mu .append (.sl 4) (.cons true (.tup (.cons true (.glob "OUT" (.str "out")) (.cons true (.nm 5) (.cons true (.nm 7) (.cons true (.ix true (.nm 3) (.bin .add true (.nm 5) (.cst (.int 1)))) .nil))))) .nil))) .nil))) : Mn.Ss) = B at g ⊢
    generalize segK cs ws ts last ts.length = S1 at *
    generalize segK cs ws ts last 0 = S0 at *
    generalize palD cs ws = pal at *
    generalize (ts.map (·.1) ++ [last]).map D.int = BB at *
    generalize ts.map trnD = T at *
    simp [fT, g, frzS, List.mapIdx_cons]
  have nS := segs_nfm (gs := segK cs ws ts last ts.length)
  rw [show b_all_stretches = ((.cons (.asg (.nm 3) [1, 6, 2] (.bin .add true (.lc [6] true false (.nm 6) [1] (.seq (.nm 1)) .no (.ix true (.nm 6) (.cst (.int 0)))) (.lst (.cons true (.nm 2) .nil)))) (.cons (.asg (.nm 4) [3] (.lst (.cons true (.tup (.cons true (.glob "OUT" (.str "out")) (.cons true (.cst .non) (.cons true (.cst (.int 0)) (.cons true (.ix true (.nm 3) (.cst (.int 0))) .nil))))) .nil))) (.cons (.for_ (.tup (.cons (.nm 5) (.cons (.nm 6) .nil))) [1] false (.enum (.nm 1)) (.cons (.asg (.nm 7) [6] (.ix true (.nm 6) (.cst (.int 0)))) (.cons (.for_ (.tup (.cons (.nm 8) (.cons (.nm 9) .nil))) [0, 6, 1, 5] true (.seq (.call true 3 (.cons true (.nm 0) (.cons true (.nm 6) (.cons true (.call true 5 (.cons true (.nm 0) (.cons true (.nm 1) (.cons true (.nm 5) .nil)))) .nil))))) (.cons (.ex (.mu .append (.sl 4) (.cons true (.tup (.cons true (.nm 8) (.cons true (.nm 5) (.cons true (.nm 7) (.cons true (.nm 9) .nil))))) .nil))) (.cons (.asg (.nm 7) [9] (.nm 9)) .nil))) (.cons (.ex (.mu .append (.sl 4) (.cons true (.tup (.cons true (.glob "OUT" (.str "out")) (.cons true (.nm 5) (.cons true (.nm 7) (.cons true (.ix true (.nm 3) (.bin .add true (.nm 5) (.cst (.int 1)))) .nil))))) .nil))) .nil)))) (.cons (.ret [4] (.mv 4)) .nil)))) : Mn.Ss) from rfl, step_ e0, step_ e1, step_ e2]
  simp [nS, f_all_stretches]
def clip (first last : Int) (g : Seg) : Option Seg := if max g.2.1 first < min g.2.2 last then some (g.1, max g.2.1 first, min g.2.2 last) else none
def strF (cs : List Col) (ws : List Wsh) (ts : List Trn) (first last : Int) : List Seg := (segK cs ws ts last ts.length).filterMap (clip first last)
theorem max_if {a b : Int} : (if b > a then b else a) = max a b := by omega
theorem min_if {a b : Int} : (if b < a then b else a) = min a b := by omega
theorem stretches_ {n wf : Nat} {first last : Int} {cs : List Col} {ws : List Wsh} {ts : List Trn} (hn : 5 ≤ n) (hm : Nmd cs ts) (hf : Flw ws ts) (hl : ts.length ≤ 100) : callD fns wf n 9 [palD cs ws, .lst false (ts.map trnD), .int first, .int last] = some (.lst true ((strF cs ws ts first last).map segD), []) := by
  obtain ⟨k, rfl⟩ : ∃ k, n = k + 1 := ⟨n - 1, by omega⟩
  rw [callD_at (f := f_stretches) rfl rfl]
  show runF f_stretches (denSs _ _ b_stretches [some (palD cs ws), some (.lst false (ts.map trnD)), some (.int first), some (.int last), none, none, none, none, none]) = _
  have pf := pal_frz (cs := cs) (ws := ws)
  have fT := trns_frz (ts := ts)
  have ea := allstr_ (n := k) (wf := wf) (last := last) (by omega) hm hf hl
  have len := segK_len (cs := cs) (ws := ws) (ts := ts) (last := last) ts.length
  unfold strF
  generalize segK cs ws ts last ts.length = S at *
  generalize palD cs ws = pal at *
  generalize ts.map trnD = T at *
  obtain ⟨ρ', g, v5, v6, v7, v8, rfl⟩ := forL_run (fun i ρ => ∃ v5 v6 v7 v8 : Option D, ρ = [some (pal), some (.lst false T), some (.int first), some (.int last), some (.lst true (((S.take i).filterMap (clip first last)).map segD)), v5, v6, v7, v8]) (f := forB (callD fns wf k) wf ((.tup (.cons (.nm 5) (.cons (.nm 6) (.cons (.nm 7) (.cons (.nm 8) .nil))))) : Mn.T) ((.cons (.ite (.cmp .lt true (.bi .max2 (.cons true (.nm 7) (.cons true (.nm 2) .nil))) (.bi .min2 (.cons true (.nm 8) (.cons true (.nm 3) .nil)))) (.cons (.ex (.mu .append (.sl 4) (.cons true (.tup (.cons true (.nm 5) (.cons true (.nm 6) (.cons true (.bi .max2 (.cons true (.nm 7) (.cons true (.nm 2) .nil))) (.cons true (.bi .min2 (.cons true (.nm 8) (.cons true (.nm 3) .nil))) .nil))))) .nil))) .nil) .nil) .nil) : Mn.Ss)) (xs := S.map segD) (fun i y ρ hy ⟨v5, v6, v7, v8, e⟩ => by
    subst e
    rw [List.getElem?_map] at hy
    obtain ⟨s, hs, rfl⟩ := Option.map_eq_some_iff.mp hy
    have hi := (List.getElem?_eq_some_iff.mp hs).1
    have lf : ((S.take i).filterMap (clip first last)).length ≤ i := Nat.le_trans (List.length_filterMap_le _ _) (by rw [List.length_take]; omega)
    have tk : (S.take (i + 1)).filterMap (clip first last) = (S.take i).filterMap (clip first last) ++ (clip first last s).toList := by
      rw [List.take_add_one, hs, List.filterMap_append]
      cases h : clip first last s <;> simp [h]
    rw [tk]
    have lf2 : (((S.take i).filterMap (clip first last)).map segD).length < 16777216 := by rw [List.length_map]; omega
    have fF := segs_frz (gs := (S.take i).filterMap (clip first last))
    refine ⟨[some (pal), some (.lst false T), some (.int first), some (.int last), some (.lst true (((S.take i).filterMap (clip first last) ++ (clip first last s).toList).map segD)), some (.str s.1.1), some (numD s.1.2), some (.int s.2.1), some (.int s.2.2)], .inl ?_, _, _, _, _, rfl⟩
    rw [List.map_append]
    generalize ((S.take i).filterMap (clip first last)).map segD = F at *
    unfold clip
    by_cases c : max s.2.1 first < min s.2.2 last
    · simp [forB, segD, -f_max, -f_min, biD, max_if, min_if, c, lf2, sizeLine]
    · simp [forB, segD, -f_max, -f_min, biD, max_if, min_if, c]) (ρ := [some (pal), some (.lst false T), some (.int first), some (.int last), some (.lst true []), none, none, none, none]) ⟨none, none, none, none, rfl⟩
  rw [List.length_map, List.take_length] at g
  have nS := segs_nfm (gs := S)
  have fS := segs_frz (gs := S)
  have nF := segs_nfm (gs := S.filterMap (clip first last))
  have e1 : denS (callD fns wf k) wf ((.for_ (.tup (.cons (.nm 5) (.cons (.nm 6) (.cons (.nm 7) (.cons (.nm 8) .nil))))) [0, 1, 3] true (.seq (.call true 8 (.cons true (.nm 0) (.cons true (.nm 1) (.cons true (.nm 3) .nil))))) (.cons (.ite (.cmp .lt true (.bi .max2 (.cons true (.nm 7) (.cons true (.nm 2) .nil))) (.bi .min2 (.cons true (.nm 8) (.cons true (.nm 3) .nil)))) (.cons (.ex (.mu .append (.sl 4) (.cons true (.tup (.cons true (.nm 5) (.cons true (.nm 6) (.cons true (.bi .max2 (.cons true (.nm 7) (.cons true (.nm 2) .nil))) (.cons true (.bi .min2 (.cons true (.nm 8) (.cons true (.nm 3) .nil))) .nil))))) .nil))) .nil) .nil) .nil)) : Mn.S) [some (pal), some (.lst false T), some (.int first), some (.int last), some (.lst true []), none, none, none, none] = .nx [some (pal), some (.lst false T), some (.int first), some (.int last), some (.lst true ((S.filterMap (clip first last)).map segD)), v5, v6, v7, v8] := by
    generalize ((.cons (.ite (.cmp .lt true (.bi .max2 (.cons true (.nm 7) (.cons true (.nm 2) .nil))) (.bi .min2 (.cons true (.nm 8) (.cons true (.nm 3) .nil)))) (.cons (.ex (.mu .append (.sl 4) (.cons true (.tup (.cons true (.nm 5) (.cons true (.nm 6) (.cons true (.bi .max2 (.cons true (.nm 7) (.cons true (.nm 2) .nil))) (.cons true (.bi .min2 (.cons true (.nm 8) (.cons true (.nm 3) .nil))) .nil))))) .nil))) .nil) .nil) .nil) : Mn.Ss) = B at g ⊢
    simp [pf, fT, ea, g, nS, fS]
  have e0 : denS (callD fns wf k) wf ((.asg (.nm 4) [] (.lst .nil)) : Mn.S) [some (pal), some (.lst false T), some (.int first), some (.int last), none, none, none, none, none] = .nx [some (pal), some (.lst false T), some (.int first), some (.int last), some (.lst true []), none, none, none, none] := by simp [sizeLine]
  rw [show b_stretches = ((.cons (.asg (.nm 4) [] (.lst .nil)) (.cons (.for_ (.tup (.cons (.nm 5) (.cons (.nm 6) (.cons (.nm 7) (.cons (.nm 8) .nil))))) [0, 1, 3] true (.seq (.call true 8 (.cons true (.nm 0) (.cons true (.nm 1) (.cons true (.nm 3) .nil))))) (.cons (.ite (.cmp .lt true (.bi .max2 (.cons true (.nm 7) (.cons true (.nm 2) .nil))) (.bi .min2 (.cons true (.nm 8) (.cons true (.nm 3) .nil)))) (.cons (.ex (.mu .append (.sl 4) (.cons true (.tup (.cons true (.nm 5) (.cons true (.nm 6) (.cons true (.bi .max2 (.cons true (.nm 7) (.cons true (.nm 2) .nil))) (.cons true (.bi .min2 (.cons true (.nm 8) (.cons true (.nm 3) .nil))) .nil))))) .nil))) .nil) .nil) .nil)) (.cons (.ret [4] (.mv 4)) .nil))) : Mn.Ss) from rfl, step_ e0, step_ e1]
  simp [nF, f_stretches]
end Lawk13

namespace Lawk13
open PySem L2 Mn
/-- turns of any hours, of colours that are there -/
structure TB (cs : List Col) (t : Trn) : Prop where
  nm : NmOk 8 t.2.1
  a : t.1.natAbs ≤ 2000000
  b : t.2.2.1.natAbs ≤ 2000000
  c : t.2.2.2.natAbs ≤ 2000000
  col : ∃ c, colF cs t.2.1 = some c
def TsB (cs : List Col) (ts : List Trn) : Prop := ∀ t, t ∈ ts → TB cs t
theorem TsB.nmd {cs : List Col} {ts : List Trn} (h : TsB cs ts) : Nmd cs ts := fun t ht => (h t ht).col
theorem Good.tsB {cs : List Col} {ws : List Wsh} {ts : List Trn} (hc : CsOk cs) (h : Good cs ws 1100000 ts) : TsB cs ts := fun t ht => by
  obtain ⟨h1, h2, h3, h4, c, h5, h6⟩ := h.ok t ht
  have hk := hc c (colF_ok h5).1
  obtain ⟨_, k2, k3, _⟩ := hk
  exact ⟨h1, by omega, by omega, by omega, c, h5⟩
end Lawk13

namespace Lawk13
open PySem L2 Mn
theorem after_ {cs : List Col} {ws : List Wsh} {B : Int} {ts : List Trn} (hw : WsOk ws) (hk : CsOk cs) (h : Good cs ws B ts) {i : Nat} {t : Trn} (ht : ts[i]? = some t) : ∀ (d : Nat) (u : Trn), ts[i + d + 1]? = some u → t.2.2.2 ≤ u.1
  | 0, u, hu => by
    obtain ⟨w, h1, h2⟩ := h.gap i t u ht hu
    have := washF_range hw h1
    omega
  | d + 1, u, hu => by
    have hlt := (List.getElem?_eq_some_iff.mp hu).1
    obtain ⟨v, hv⟩ : ∃ v, ts[i + d + 1]? = some v := ⟨_, List.getElem?_eq_getElem (by omega)⟩
    have h0 := after_ hw hk h ht d v hv
    obtain ⟨w, h1, h2⟩ := h.gap (i + d + 1) v u hv hu
    have := washF_range hw h1
    have hvk := h.ok v (List.mem_of_getElem? hv)
    obtain ⟨c, hc, hr⟩ := hvk.col
    obtain ⟨_, k1, k2, _⟩ := hk c (colF_ok hc).1
    have := hvk.lt
    omega
theorem lastK_at {us : List Trn} {h : Int} {i : Nat} {u : Trn} (hu : us[i]? = some u) (hh : u.1 ≤ h) (later : ∀ j v, i < j → us[j]? = some v → h < v.1) : ∀ k, i < k → lastK us h k = some i
  | k + 1, hk => by
    show (match us[k]? with | some t => if t.1 ≤ h then some k else lastK us h k | none => lastK us h k) = some i
    by_cases e : k = i
    · subst e; rw [hu]; exact if_pos hh
    · have ih := lastK_at hu hh later k (by omega)
      cases hv : us[k]? with
      | none => exact ih
      | some v =>
        have := later k v (by omega) hv
        exact (if_neg (by omega)).trans ih
theorem lastK_none {us : List Trn} {h : Int} (later : ∀ (j : Nat) (v : Trn), us[j]? = some v → h < v.1) : ∀ k, lastK us h k = none
  | 0 => rfl
  | k + 1 => by
    show (match us[k]? with | some t => if t.1 ≤ h then some k else lastK us h k | none => lastK us h k) = none
    have ih := lastK_none later k
    cases hv : us[k]? with
    | none => exact ih
    | some v =>
      have := later k v hv
      exact (if_neg (by omega)).trans ih
end Lawk13

namespace Lawk13
open PySem L2 Mn
/-! stretches one behind the other -/
def Ch : Int → List Seg → Int → Prop
  | a, [], b => a = b
  | a, g :: L, b => g.2.1 = a ∧ a ≤ g.2.2 ∧ Ch g.2.2 L b
theorem Ch.app : ∀ {L M : List Seg} {a b c : Int}, Ch a L b → Ch b M c → Ch a (L ++ M) c
  | [], M, a, b, c, h, g => by
    have h : a = b := h
    subst h
    exact g
  | x :: L, M, a, b, c, ⟨h1, h2, h3⟩, g => ⟨h1, h2, Ch.app h3 g⟩
theorem Ch.le : ∀ {L : List Seg} {a b : Int}, Ch a L b → a ≤ b
  | [], a, b, h => by
    have h : a = b := h
    omega
  | x :: L, a, b, ⟨h1, h2, h3⟩ => by have := Ch.le h3; omega
theorem Ch.ge : ∀ {L : List Seg} {a b : Int}, Ch a L b → ∀ x, x ∈ L → a ≤ x.2.1
  | g :: L, a, b, ⟨h1, h2, h3⟩, x, hx => by
    rcases List.mem_cons.mp hx with rfl | hx
    · omega
    · have := Ch.ge h3 x hx
      omega
/-- the stretch of an hour, those ahead of it, those behind it -/
theorem Ch.at : ∀ {L : List Seg} {a b h : Int}, Ch a L b → a ≤ h → h < b → ∃ A g B, L = A ++ g :: B ∧ g.2.1 ≤ h ∧ h < g.2.2 ∧ (∀ x, x ∈ A → x.2.2 ≤ h) ∧ (∀ x, x ∈ B → h + 1 ≤ x.2.1)
  | [], a, b, h, e, h1, h2 => by
    have e : a = b := e
    omega
  | g :: L, a, b, h, ⟨e1, e2, e3⟩, h1, h2 => by
    by_cases c : h < g.2.2
    · exact ⟨[], g, L, rfl, by omega, c, fun _ z => (nomatch z), fun x hx => by have := e3.ge x hx; omega⟩
    · obtain ⟨A, g', B, rfl, k1, k2, k3, k4⟩ := Ch.at e3 (by omega) h2
      refine ⟨g :: A, g', B, rfl, k1, k2, fun x hx => ?_, k4⟩
      rcases List.mem_cons.mp hx with rfl | hx
      · omega
      · exact k3 x hx
def clipL (L : List Seg) (first last : Int) : List Seg := L.filterMap (clip first last)
theorem clip_same {first e h : Int} {x : Seg} (hx : x.2.2 ≤ h) : clip first (h + 1) x = clip first h x := by
  unfold clip
  rw [show min x.2.2 (h + 1) = min x.2.2 h by omega]
theorem clip_none {first last : Int} {x : Seg} (hx : last ≤ x.2.1) : clip first last x = none := by
  unfold clip
  rw [if_neg (by omega)]
theorem clipL_split {A B : List Seg} {g : Seg} {first h : Int} (k1 : g.2.1 ≤ h) (k2 : h < g.2.2) (hf : first ≤ h) (k3 : ∀ x, x ∈ A → x.2.2 ≤ h) (k4 : ∀ x, x ∈ B → h + 1 ≤ x.2.1) :
    clipL (A ++ g :: B) first (h + 1) = clipL A first h ++ [(g.1, max g.2.1 first, h + 1)] ∧ clipL (A ++ g :: B) first h = clipL A first h ++ (if max g.2.1 first < h then [(g.1, max g.2.1 first, h)] else []) := by
  have a1 : clipL A first (h + 1) = clipL A first h := by
    unfold clipL
    clear k4
    induction A with
    | nil => rfl
    | cons x A ih =>
      rw [List.filterMap_cons, List.filterMap_cons, clip_same (e := h) (k3 x List.mem_cons_self), ih fun y hy => k3 y (List.mem_cons_of_mem _ hy)]
  have b0 : ∀ e, e ≤ h + 1 → clipL B first e = [] := fun e he => List.filterMap_eq_nil_iff.mpr fun x hx => clip_none (by have := k4 x hx; omega)
  have g1 : clip first (h + 1) g = some (g.1, max g.2.1 first, h + 1) := by
    unfold clip
    rw [if_pos (by omega), show min g.2.2 (h + 1) = h + 1 by omega]
  have g2 : clip first h g = if max g.2.1 first < h then some (g.1, max g.2.1 first, h) else none := by
    unfold clip
    rw [show min g.2.2 h = h by omega]
  have c1 : clipL (A ++ g :: B) first (h + 1) = clipL A first (h + 1) ++ ((clip first (h + 1) g).toList ++ clipL B first (h + 1)) := by
    unfold clipL
    rw [List.filterMap_append, List.filterMap_cons]
    cases clip first (h + 1) g <;> rfl
  have c2 : clipL (A ++ g :: B) first h = clipL A first h ++ ((clip first h g).toList ++ clipL B first h) := by
    unfold clipL
    rw [List.filterMap_append, List.filterMap_cons]
    cases clip first h g <;> rfl
  refine ⟨by rw [c1, a1, g1, b0 _ (Int.le_refl _)]; rfl, ?_⟩
  rw [c2, g2, b0 _ (by omega)]
  by_cases c : max g.2.1 first < h
  · rw [if_pos c, if_pos c]; rfl
  · rw [if_neg c, if_neg c]; rfl
/-- one hour more -/
def stepH (f : List Seg) (l : Sta) (h : Int) : List Seg := match f.getLast? with
  | some g => if g.1 = l then f.dropLast ++ [(l, g.2.1, h + 1)] else f ++ [(l, h, h + 1)]
  | none => [(l, h, h + 1)]
theorem clipL_lab {L : List Seg} {first last : Int} {x : Seg} (hx : x ∈ clipL L first last) : ∃ g, g ∈ L ∧ x = (g.1, max g.2.1 first, min g.2.2 last) ∧ max g.2.1 first < min g.2.2 last := by
  obtain ⟨g, hg, e⟩ := List.mem_filterMap.mp hx
  unfold clip at e
  split at e
  · cases e; exact ⟨g, hg, rfl, by assumption⟩
  · cases e
theorem hour_step {L : List Seg} {a b first h : Int} (hc : Ch a L b) (nd : (L.map (·.1)).Nodup) (h1 : a ≤ first) (h2 : first ≤ h) (h3 : h < b) : ∃ g, g ∈ L ∧ g.2.1 ≤ h ∧ h < g.2.2 ∧ clipL L first (h + 1) = stepH (clipL L first h) g.1 h := by
  obtain ⟨A, g, B, rfl, k1, k2, k3, k4⟩ := hc.at (h := h) (by omega) h3
  refine ⟨g, by simp, k1, k2, ?_⟩
  obtain ⟨e1, e2⟩ := clipL_split k1 k2 h2 k3 k4
  rw [e1, e2]
  by_cases c : max g.2.1 first < h
  · rw [if_pos c]
    unfold stepH
    rw [List.getLast?_append]
    simp
  · rw [if_neg c, List.append_nil]
    have mx : max g.2.1 first = h := by omega
    rw [mx]
    unfold stepH
    cases hl : (clipL A first h).getLast? with
    | none =>
      rw [List.getLast?_eq_none_iff] at hl
      rw [hl]
      rfl
    | some y =>
      simp only
      have hy := List.mem_of_getLast? hl
      obtain ⟨x, hx, rfl, _⟩ := clipL_lab hy
      rw [if_neg]
      intro z
      have z : x.1 = g.1 := z
      rw [List.map_append, List.map_cons] at nd
      have := (List.nodup_append.mp nd).2.2 x.1 (List.mem_map_of_mem (f := (·.1)) hx) g.1 List.mem_cons_self
      exact this z
/-- without a gap, each of an hour at least -/
def SCh : Int → List Seg → Int → Prop
  | p, [], q => p = q
  | p, g :: L, q => g.2.1 = p ∧ p < g.2.2 ∧ SCh g.2.2 L q
theorem clipL_ch : ∀ {L : List Seg} {a b first last : Int}, Ch a L b → max first a < min last b → SCh (max first a) (clipL L first last) (min last b)
  | [], a, b, first, last, h, hl => by
    have h : a = b := h
    omega
  | g :: L, a, b, first, last, ⟨h1, h2, h3⟩, hl => by
    have lb := h3.le
    have e : clipL (g :: L) first last = (clip first last g).toList ++ clipL L first last := by
      unfold clipL
      rw [List.filterMap_cons]
      cases clip first last g <;> rfl
    rw [e]
    by_cases c : max g.2.1 first < min g.2.2 last
    · have ec : clip first last g = some (g.1, max g.2.1 first, min g.2.2 last) := by unfold clip; rw [if_pos c]
      rw [ec]
      show SCh _ ((g.1, max g.2.1 first, min g.2.2 last) :: clipL L first last) _
      refine ⟨by show max g.2.1 first = _; omega, by show _ < min g.2.2 last; omega, ?_⟩
      show SCh (min g.2.2 last) _ _
      by_cases c2 : max first g.2.2 < min last b
      · have := clipL_ch h3 c2
        rw [show min g.2.2 last = max first g.2.2 by omega]
        exact this
      · have en : clipL L first last = [] := List.filterMap_eq_nil_iff.mpr fun x hx => by
          have := h3.ge x hx
          by_cases c3 : last ≤ x.2.1
          · exact clip_none c3
          · have lx : x.2.2 ≤ b := by
              clear c c2 ec e hl
              induction L generalizing g a with
              | nil => cases hx
              | cons y L ih =>
                obtain ⟨q1, q2, q3⟩ := h3
                rcases List.mem_cons.mp hx with rfl | hx
                · exact q3.le
                · exact ih (g := y) (a := y.2.1) rfl (by omega) q3 q3.le hx (q3.ge x hx)
            unfold clip
            rw [if_neg (by omega)]
        rw [en]
        show min g.2.2 last = min last b
        omega
    · have ec : clip first last g = none := by unfold clip; rw [if_neg c]
      rw [ec]
      show SCh _ (clipL L first last) _
      have : max first a = max first g.2.2 := by omega
      rw [this]
      exact clipL_ch h3 (by omega)
end Lawk13

namespace Lawk13
open PySem L2 Mn
/-! the stretches of a pot's turns -/
theorem clip_min {first last a b : Int} {l : Sta} {s : Int} (h : min a last = min b last) : clip first last (l, s, a) = clip first last (l, s, b) := by
  unfold clip
  rw [show (l, s, a).2.2 = a from rfl, show (l, s, b).2.2 = b from rfl, h]
theorem strF_top {cs : List Col} {ws : List Wsh} {ts : List Trn} {first last top : Int} (h : last ≤ top) : strF cs ws ts first last = clipL (segK cs ws ts top ts.length) first last := by
  have hb : ∀ i, min (bgn ts last i) last = min (bgn ts top i) last := fun i => by
    unfold bgn
    cases ts[i]? with
    | some t => rfl
    | none => show min last last = min top last; omega
  unfold strF clipL segK
  rw [List.filterMap_cons, List.filterMap_cons, clip_min (hb 0), List.filterMap_flatMap, List.filterMap_flatMap]
  have e : (fun i => List.filterMap (clip first last) (tsg cs ws ts last i)) = fun i => List.filterMap (clip first last) (tsg cs ws ts top i) := by
    funext i
    unfold tsg
    cases ts[i]? with
    | none => rfl
    | some t =>
      simp only
      cases colF cs t.2.1 with
      | none => rfl
      | some c =>
        simp only [turnSegs, List.filterMap_cons]
        rw [clip_min (hb (i + 1))]
  rw [e]
structure Bnd (ts : List Trn) (top : Int) : Prop where
  nn : ∀ t, t ∈ ts → 0 ≤ t.1
  le : ∀ t, t ∈ ts → t.2.2.2 + 99 ≤ top
  pos : 0 ≤ top
theorem wbF_le {ws : List Wsh} {ts : List Trn} {i : Nat} (hw : WsOk ws) : wbF ws ts i ≤ 99 := by
  unfold wbF
  split
  · rename_i a t _ _
    cases h : washF ws a.2.1 t.2.1 with
    | none => show (0 : Int) ≤ 99; omega
    | some w => exact (washF_range hw h).2
  · omega
theorem bgn_at {ts : List Trn} {top : Int} {i : Nat} {t : Trn} (h : ts[i]? = some t) : bgn ts top i = t.1 := by unfold bgn; rw [h]; rfl
theorem bgn_end {ts : List Trn} {top : Int} {i : Nat} (h : ts.length ≤ i) : bgn ts top i = top := by unfold bgn; rw [List.getElem?_eq_none h]; rfl
section
variable {cs : List Col} {ws : List Wsh} {B top : Int} {ts : List Trn}
theorem next_ge (hp : PalOk cs ws) (hg : Good cs ws B ts) (hb : Bnd ts top) {i : Nat} {t : Trn} (ht : ts[i]? = some t) : t.2.2.2 + wbF ws ts i ≤ bgn ts top (i + 1) := by
  by_cases c : i + 1 < ts.length
  · obtain ⟨u, hu⟩ : ∃ u, ts[i + 1]? = some u := ⟨_, List.getElem?_eq_getElem c⟩
    obtain ⟨w, h1, h2⟩ := hg.gap i t u ht hu
    rw [bgn_at hu]
    unfold wbF
    rw [ht, hu]
    simp only [h1, Option.getD_some]
    exact h2
  · rw [bgn_end (by omega)]
    have := hb.le t (List.mem_of_getElem? ht)
    have := wbF_le (ts := ts) (i := i) hp.wok
    omega
theorem seg_ch (hp : PalOk cs ws) (hg : Good cs ws B ts) (hb : Bnd ts top) : ∀ k, k ≤ ts.length → Ch 0 (segK cs ws ts top k) (bgn ts top k)
  | 0, _ => by
    refine ⟨rfl, ?_, rfl⟩
    show 0 ≤ bgn ts top 0
    cases h : ts[0]? with
    | none => rw [show bgn ts top 0 = top by unfold bgn; rw [h]; rfl]; exact hb.pos
    | some t => rw [bgn_at h]; exact hb.nn t (List.mem_of_getElem? h)
  | k + 1, hk => by
    rw [segK_succ]
    refine (seg_ch hp hg hb k (by omega)).app ?_
    obtain ⟨t, ht⟩ : ∃ t, ts[k]? = some t := ⟨_, List.getElem?_eq_getElem (by omega)⟩
    obtain ⟨c, hc⟩ := hg.nmd t (List.mem_of_getElem? ht)
    have o := hg.ord hp.cok t (List.mem_of_getElem? ht) c hc
    have w := wbF_nn (ts := ts) (i := k) hp.wok
    have n := next_ge hp hg hb ht
    rw [bgn_at ht]
    unfold tsg
    simp only [ht, hc]
    exact ⟨rfl, o.1, rfl, o.2.1, rfl, o.2.2.1, rfl, o.2.2.2, rfl, by show t.2.2.2 ≤ t.2.2.2 + wbF ws ts k; omega, rfl, n, rfl⟩
theorem seg_num : ∀ (k : Nat) (g : Seg), g ∈ segK cs ws ts top k → g.1 = (Str.ofString "out", none) ∨ ∃ i, i < k ∧ g.1.2 = some i
  | 0, g, h => by
    rcases List.mem_cons.mp h with rfl | h
    · exact .inl rfl
    · cases h
  | k + 1, g, h => by
    rw [segK_succ] at h
    rcases List.mem_append.mp h with h | h
    · rcases seg_num k g h with h | ⟨i, h1, h2⟩
      · exact .inl h
      · exact .inr ⟨i, by omega, h2⟩
    · refine .inr ⟨k, by omega, ?_⟩
      unfold tsg at h
      split at h
      · cases h
      · split at h
        · cases h
        · simp [turnSegs] at h
          rcases h with rfl | rfl | rfl | rfl | rfl | rfl <;> rfl
theorem seg_nd : ∀ (k : Nat), ((segK cs ws ts top k).map (·.1)).Nodup
  | 0 => by simp [segK]
  | k + 1 => by
    rw [segK_succ, List.map_append]
    refine List.nodup_append.mpr ⟨seg_nd k, ?_, fun a ha b hb e => ?_⟩
    · unfold tsg
      split
      · exact List.nodup_nil
      · split
        · exact List.nodup_nil
        · simp only [turnSegs, List.map_cons, List.map_nil]
          have hw : [Str.ofString "filled", Str.ofString "melting", Str.ofString "ready", Str.ofString "worked", Str.ofString "washed", Str.ofString "out"].Nodup := by decide +kernel
          have h2 : ([Str.ofString "filled", Str.ofString "melting", Str.ofString "ready", Str.ofString "worked", Str.ofString "washed", Str.ofString "out"].map fun w => ((w, some k) : Sta)).Nodup := List.pairwise_map.mpr (hw.imp fun h e => h (congrArg Prod.fst e))
          exact h2
    · subst e
      obtain ⟨g, hg, rfl⟩ := List.mem_map.mp ha
      obtain ⟨x, hx, e⟩ := List.mem_map.mp hb
      have hx2 : x.1.2 = some k := by
        unfold tsg at hx
        split at hx
        · cases hx
        · split at hx
          · cases hx
          · simp [turnSegs] at hx
            rcases hx with rfl | rfl | rfl | rfl | rfl | rfl <;> rfl
      rw [e] at hx2
      rcases seg_num k g hg with h | ⟨i, h1, h2⟩
      · rw [h] at hx2; cases hx2
      · rw [h2] at hx2; cases hx2; omega
theorem bgn_lt (hp : PalOk cs ws) (hg : Good cs ws B ts) {i : Nat} {h : Int} (hh : h < bgn ts top (i + 1)) : ∀ (j : Nat) (v : Trn), i < j → ts[j]? = some v → h < v.1 := fun j v hj hv => by
  have hlt := (List.getElem?_eq_some_iff.mp hv).1
  by_cases c : j = i + 1
  · subst c; rw [bgn_at hv] at hh; exact hh
  · obtain ⟨u, hu⟩ : ∃ u, ts[i + 1]? = some u := ⟨_, List.getElem?_eq_getElem (by omega)⟩
    rw [bgn_at hu] at hh
    have := after_ hp.wok hp.cok hg hu (j - i - 2) v (by rw [show i + 1 + (j - i - 2) + 1 = j by omega]; exact hv)
    have g := hg.ok u (List.mem_of_getElem? hu)
    obtain ⟨c', hc', hr⟩ := g.col
    obtain ⟨_, k1, k2, _⟩ := hp.cok c' (colF_ok hc').1
    have := g.lt
    omega
theorem seg_st (hp : PalOk cs ws) (hg : Good cs ws B ts) : ∀ (k : Nat), k ≤ ts.length → ∀ (g : Seg), g ∈ segK cs ws ts top k → ∀ h, g.2.1 ≤ h → h < g.2.2 → stF cs ws ts h = g.1
  | 0, _, g, hm, h, h1, h2 => by
    rcases List.mem_cons.mp hm with rfl | hm
    · have h2 : h < bgn ts top 0 := h2
      have ln := lastK_none (us := ts) (h := h) (fun j v hv => by
        by_cases c : j = 0
        · subst c; rw [bgn_at hv] at h2; exact h2
        · obtain ⟨u, hu⟩ : ∃ u, ts[0]? = some u := ⟨_, List.getElem?_eq_getElem (by have := (List.getElem?_eq_some_iff.mp hv).1; omega)⟩
          rw [bgn_at hu] at h2
          have := after_ hp.wok hp.cok hg hu (j - 1) v (by rw [show 0 + (j - 1) + 1 = j by omega]; exact hv)
          have g := hg.ok u (List.mem_of_getElem? hu)
          obtain ⟨c', hc', hr⟩ := g.col
          obtain ⟨_, k1, k2, _⟩ := hp.cok c' (colF_ok hc').1
          have := g.lt
          omega) ts.length
      unfold stF
      rw [ln]
      rfl
    · cases hm
  | k + 1, hk, g, hm, h, h1, h2 => by
    rw [segK_succ] at hm
    rcases List.mem_append.mp hm with hm | hm
    · exact seg_st hp hg k (by omega) g hm h h1 h2
    · obtain ⟨t, ht⟩ : ∃ t, ts[k]? = some t := ⟨_, List.getElem?_eq_getElem (by omega)⟩
      obtain ⟨c, hc⟩ := hg.nmd t (List.mem_of_getElem? ht)
      have o := hg.ord hp.cok t (List.mem_of_getElem? ht) c hc
      have w := wbF_nn (ts := ts) (i := k) hp.wok
      unfold tsg at hm
      simp only [ht, hc] at hm
      have bound : t.1 ≤ h ∧ (h < bgn ts top (k + 1) ∨ h < t.2.2.2 + wbF ws ts k) := by
        simp [turnSegs] at hm
        rcases hm with rfl | rfl | rfl | rfl | rfl | rfl <;> simp only at h1 h2 <;> first | (refine ⟨by omega, .inr (by omega)⟩; done) | exact ⟨by omega, .inl h2⟩
      have lk := lastK_at (h := h) ht bound.1 (fun j v hj hv => by
        rcases bound.2 with b | b
        · exact bgn_lt hp hg b j v hj hv
        · have hlt := (List.getElem?_eq_some_iff.mp hv).1
          obtain ⟨u, hu⟩ : ∃ u, ts[k + 1]? = some u := ⟨_, List.getElem?_eq_getElem (by omega)⟩
          obtain ⟨w', q1, q2⟩ := hg.gap k t u ht hu
          have ew : wbF ws ts k = w' := by unfold wbF; rw [ht, hu]; simp only [q1, Option.getD_some]
          exact bgn_lt (top := 0) hp hg (by rw [bgn_at hu]; omega) j v hj hv) ts.length (by omega)
      unfold stF
      rw [lk]
      unfold staV
      simp only [ht, hc]
      simp [turnSegs] at hm
      rcases hm with rfl | rfl | rfl | rfl | rfl | rfl <;> simp only at h1 h2 <;> unfold wordF
      · rw [if_pos h2]
      · rw [if_neg (by omega), if_pos h2]
      · rw [if_neg (by omega), if_neg (by omega), if_pos h2]
      · rw [if_neg (by omega), if_neg (by omega), if_neg (by omega), if_pos h2]
      · rw [if_neg (by omega), if_neg (by omega), if_neg (by omega), if_neg (by omega), if_pos h2]
      · rw [if_neg (by omega), if_neg (by omega), if_neg (by omega), if_neg (by omega), if_neg (by omega)]
end
end Lawk13

namespace Lawk13
open PySem L2 Mn
theorem staD_num (s : Sta) : staD s = .tup [.str s.1, numD s.2] := by obtain ⟨w, i⟩ := s; cases i <;> rfl
theorem ixN_last {n : Nat} : ixN (n + 1) (-1) = some n := by
  unfold ixN
  rw [if_neg (by omega), if_pos (by omega)]
  congr 1
  omega
theorem at_lastA {α : Type} {xs : List α} {x : α} : atI (xs ++ [x]) (-1) = some x := by
  unfold L2.atI
  rw [List.length_append, List.length_singleton, ixN_last]
  simp
theorem set_lastA {xs : List D} {x v : D} : setD (.lst true (xs ++ [x])) (.int (-1)) v = some (.lst true (xs ++ [v])) := by
  rw [h_lst, List.length_append, List.length_singleton, ixN_last]
  simp
theorem eq_num {a b : Option Nat} : eqD (numD a) (numD b) = decide (a = b) := by
  cases a <;> cases b <;> simp [numD]
  rw [Bool.eq_iff_iff]
  simp
  omega
theorem cut2of4 {a b c d : D} : cutL [a, b, c, d] none (some 2) = [a, b] := rfl
theorem pl_num {n : Nat} {a : Option Nat} : Mn.plain n (numD a) = true := by cases a <;> simp [numD]
theorem byB_ {n wf : Nat} {h : Int} {pal : D} {T : List D} {s : Sta} {F : List Seg} {v2 v3 : D} {v6 v7 : Option D} (pf : frz pal = pal) (fT : frzs T = T) (es : callD fns wf n 7 [pal, .lst false T, .int h] = some (staD s, [])) (hl : F.length ≤ 1000) :
    denSs (callD fns wf n) wf ((.cons (.asg (.tup (.cons (.nm 6) (.cons (.nm 7) .nil))) [0, 1, 5] (.call true 7 (.cons true (.nm 0) (.cons true (.nm 1) (.cons true (.nm 5) .nil))))) (.cons (.ite (.and (.cmp .ne true (.nm 4) (.lst .nil)) (.one (.cmp .eq true (.sl true true (.ix true (.nm 4) (.neg (.cst (.int 1)))) .no (.yes (.cst (.int 2)))) (.tup (.cons true (.nm 6) (.cons true (.nm 7) .nil)))))) (.cons (.asg (.sub (.sl 4) (.neg (.cst (.int 1)))) [6, 7, 4, 5] (.tup (.cons true (.nm 6) (.cons true (.nm 7) (.cons true (.ix true (.ix true (.nm 4) (.neg (.cst (.int 1)))) (.cst (.int 2))) (.cons true (.bin .add true (.nm 5) (.cst (.int 1))) .nil)))))) .nil) (.cons (.ex (.mu .append (.sl 4) (.cons true (.tup (.cons true (.nm 6) (.cons true (.nm 7) (.cons true (.nm 5) (.cons true (.bin .add true (.nm 5) (.cst (.int 1))) .nil))))) .nil))) .nil)) .nil)) : Mn.Ss) [some (pal), some (.lst false T), some (v2), some (v3), some (.lst true (F.map segD)), some (.int h), v6, v7] = .nx [some (pal), some (.lst false T), some (v2), some (v3), some (.lst true ((stepH F s h).map segD)), some (.int h), some (.str s.1), some (numD s.2)] := by
  rw [staD_num] at es
  unfold stepH
  rcases List.eq_nil_or_concat F with rfl | ⟨A, g, rfl⟩
  · simp [pf, fT, es, k_ne, sizeLine, segD]
  · rw [List.concat_eq_append] at *
    have fA := segs_frz (gs := A)
    have lA : (A.map segD).length + 1 < 16777216 := by simp at hl ⊢; omega
    have lA2 : (A.map segD).length < 16777216 := by omega
    have pA : ∀ k, plains k (A.map segD) = plains k (A.map segD) := fun _ => rfl
    have ne : cmpD .ne (.lst false (A.map segD ++ [segD g])) (.lst false []) = some true := by
      have pl : Mn.plain 60 (.lst false (A.map segD ++ [segD g])) = true := by
        have : plains 59 ((A ++ [g]).map segD) = true := plains_mapf (fun a => by simp [segD, pl_num]) _
        rw [List.map_append] at this
        simpa using this
      rw [k_ne pl (by simp)]
      cases A <;> simp
    have al := at_lastA (xs := A.map segD) (x := segD g)
    have sl := fun v => set_lastA (xs := A.map segD) (x := segD g) (v := v)
    rw [List.getLast?_append]
    simp only [List.getLast?_singleton, Option.some_or, List.map_append, List.map_cons, List.map_nil]
    by_cases c : g.1 = s
    · subst c
      rw [if_pos rfl, List.dropLast_concat]
      simp only [List.map_append, List.map_cons, List.map_nil]
      generalize A.map segD = FA at *
      unfold segD at *
      simp [pf, fT, es, ne, fA, frzs_app, al, sl, k_eq, cut2of4, eq_num, pl_num, sizeLine]
    · rw [if_neg c]
      simp only [List.map_append, List.map_cons, List.map_nil]
      have cb : ((g.1.1 == s.1) && decide (g.1.2 = s.2)) = false := by
        obtain ⟨⟨w, i⟩, q⟩ := g
        obtain ⟨w', i'⟩ := s
        simp at c ⊢
        exact c
      generalize A.map segD = FA at *
      unfold segD at *
      simp [pf, fT, es, ne, fA, frzs_app, al, k_eq, cut2of4, eq_num, pl_num, cb, sizeLine, lA, lA2]
def top0 : Int := 2000000
theorem Good.bnd {cs : List Col} {ws : List Wsh} {ts : List Trn} (h : Good cs ws 1100000 ts) : Bnd ts top0 := ⟨fun t ht => (h.ok t ht).a0, fun t ht => by have := (h.ok t ht).hB; unfold top0; omega, by decide⟩
theorem rngL_get' {lo : Int} {n i : Nat} {x : D} (h : (rngL lo n)[i]? = some x) : x = .int (lo + (i : Nat)) ∧ i < n := by
  unfold rngL at h
  rw [List.getElem?_map] at h
  obtain ⟨j, h1, rfl⟩ := Option.map_eq_some_iff.mp h
  have hl : i < n := by have := (List.getElem?_eq_some_iff.mp h1).1; simpa using this
  rw [List.getElem?_range hl] at h1
  cases h1
  exact ⟨rfl, hl⟩
theorem clipL_nil {L : List Seg} {first : Int} : clipL L first first = [] := List.filterMap_eq_nil_iff.mpr fun x _ => by
  unfold clip
  rw [if_neg (by omega)]
theorem clipL_len {L : List Seg} {first last : Int} : (clipL L first last).length ≤ L.length := List.length_filterMap_le _ _
theorem byh_ {n wf : Nat} {first last : Int} {cs : List Col} {ws : List Wsh} {ts : List Trn} (hn : 6 ≤ n) (hp : PalOk cs ws) (hg : Good cs ws 1100000 ts) (hl : ts.length ≤ 30) (h0 : 0 ≤ first) (h1 : first ≤ last) (h2 : last ≤ 1000000) : callD fns wf n 19 [palD cs ws, .lst false (ts.map trnD), .int first, .int last] = some (.lst true ((strF cs ws ts first last).map segD), []) := by
  obtain ⟨k, rfl⟩ : ∃ k, n = k + 1 := ⟨n - 1, by omega⟩
  rw [strF_top (top := top0) (by unfold top0; omega)]
  have ch := seg_ch hp hg hg.bnd ts.length (Nat.le_refl _)
  rw [bgn_end (Nat.le_refl _)] at ch
  have nd := seg_nd (cs := cs) (ws := ws) (top := top0) (ts := ts) ts.length
  have st := seg_st (top := top0) hp hg ts.length (Nat.le_refl _)
  have len := segK_len (cs := cs) (ws := ws) (ts := ts) (last := top0) ts.length
  have es := fun h => stateN (n := k) (wf := wf) (h := h) (by omega) hg.nmd hg.flw (by omega : ts.length ≤ 100)
  have pf := pal_frz (cs := cs) (ws := ws)
  have fT := trns_frz (ts := ts)
  generalize segK cs ws ts top0 ts.length = L at *
  obtain ⟨ρ', g, v5, v6, v7, rfl⟩ := forL_run (fun i ρ => ∃ v5 v6 v7 : Option D, ρ = [some (palD cs ws), some (.lst false (ts.map trnD)), some (.int first), some (.int last), some (.lst true ((clipL L first (first + (i : Nat))).map segD)), v5, v6, v7]) (f := forB (callD fns wf k) wf ((.nm 5) : Mn.T) ((.cons (.asg (.tup (.cons (.nm 6) (.cons (.nm 7) .nil))) [0, 1, 5] (.call true 7 (.cons true (.nm 0) (.cons true (.nm 1) (.cons true (.nm 5) .nil))))) (.cons (.ite (.and (.cmp .ne true (.nm 4) (.lst .nil)) (.one (.cmp .eq true (.sl true true (.ix true (.nm 4) (.neg (.cst (.int 1)))) .no (.yes (.cst (.int 2)))) (.tup (.cons true (.nm 6) (.cons true (.nm 7) .nil)))))) (.cons (.asg (.sub (.sl 4) (.neg (.cst (.int 1)))) [6, 7, 4, 5] (.tup (.cons true (.nm 6) (.cons true (.nm 7) (.cons true (.ix true (.ix true (.nm 4) (.neg (.cst (.int 1)))) (.cst (.int 2))) (.cons true (.bin .add true (.nm 5) (.cst (.int 1))) .nil)))))) .nil) (.cons (.ex (.mu .append (.sl 4) (.cons true (.tup (.cons true (.nm 6) (.cons true (.nm 7) (.cons true (.nm 5) (.cons true (.bin .add true (.nm 5) (.cst (.int 1))) .nil))))) .nil))) .nil)) .nil)) : Mn.Ss)) (xs := rngL first (last - first).toNat) (fun i y ρ hy ⟨v5, v6, v7, e⟩ => by
    subst e
    obtain ⟨rfl, hi⟩ := rngL_get' hy
    obtain ⟨g, g1, g2, g3, g4⟩ := hour_step (h := first + (i : Nat)) ch nd h0 (by omega) (by unfold top0; omega)
    rw [show first + ((i + 1 : Nat) : Int) = first + (i : Nat) + 1 by omega, g4, ← st g g1 _ g2 g3]
    have lc := clipL_len (L := L) (first := first) (last := first + (i : Nat))
    have eb := byB_ (n := k) (wf := wf) (v2 := .int first) (v3 := .int last) (v6 := v6) (v7 := v7) (F := clipL L first (first + (i : Nat))) pf fT (es (first + (i : Nat))) (by omega)
    exact ⟨_, .inl (fstep (by simp) eb), _, _, _, rfl⟩) (ρ := [some (palD cs ws), some (.lst false (ts.map trnD)), some (.int first), some (.int last), some (.lst true []), none, none, none]) ⟨none, none, none, by rw [show first + ((0 : Nat) : Int) = first by omega, clipL_nil]; rfl⟩
  rw [rngL_len, show first + (((last - first).toNat : Nat) : Int) = last by omega] at g
  have b1 : big first = true := decide_eq_true ⟨by omega, by omega⟩
  have b2 : big last = true := decide_eq_true ⟨by omega, by omega⟩
  have nF := segs_nfm (gs := clipL L first last)
  rw [callD_at (f := f_law_by_hours) rfl rfl]
  show runF f_law_by_hours (denSs _ _ b_law_by_hours [some (palD cs ws), some (.lst false (ts.map trnD)), some (.int first), some (.int last), none, none, none, none]) = _
  generalize palD cs ws = pal at *
  generalize ts.map trnD = T at *
  have e0 : denS (callD fns wf k) wf ((.asg (.nm 4) [] (.lst .nil)) : Mn.S) [some (pal), some (.lst false T), some (.int first), some (.int last), none, none, none, none] = .nx [some (pal), some (.lst false T), some (.int first), some (.int last), some (.lst true []), none, none, none] := by simp [sizeLine]
  have e1 : denS (callD fns wf k) wf ((.for_ (.nm 5) [2, 3] true (.rng2 (.nm 2) (.nm 3)) (.cons (.asg (.tup (.cons (.nm 6) (.cons (.nm 7) .nil))) [0, 1, 5] (.call true 7 (.cons true (.nm 0) (.cons true (.nm 1) (.cons true (.nm 5) .nil))))) (.cons (.ite (.and (.cmp .ne true (.nm 4) (.lst .nil)) (.one (.cmp .eq true (.sl true true (.ix true (.nm 4) (.neg (.cst (.int 1)))) .no (.yes (.cst (.int 2)))) (.tup (.cons true (.nm 6) (.cons true (.nm 7) .nil)))))) (.cons (.asg (.sub (.sl 4) (.neg (.cst (.int 1)))) [6, 7, 4, 5] (.tup (.cons true (.nm 6) (.cons true (.nm 7) (.cons true (.ix true (.ix true (.nm 4) (.neg (.cst (.int 1)))) (.cst (.int 2))) (.cons true (.bin .add true (.nm 5) (.cst (.int 1))) .nil)))))) .nil) (.cons (.ex (.mu .append (.sl 4) (.cons true (.tup (.cons true (.nm 6) (.cons true (.nm 7) (.cons true (.nm 5) (.cons true (.bin .add true (.nm 5) (.cst (.int 1))) .nil))))) .nil))) .nil)) .nil))) : Mn.S) [some (pal), some (.lst false T), some (.int first), some (.int last), some (.lst true []), none, none, none] = .nx [some (pal), some (.lst false T), some (.int first), some (.int last), some (.lst true ((clipL L first last).map segD)), v5, v6, v7] := by
    generalize ((.cons (.asg (.tup (.cons (.nm 6) (.cons (.nm 7) .nil))) [0, 1, 5] (.call true 7 (.cons true (.nm 0) (.cons true (.nm 1) (.cons true (.nm 5) .nil))))) (.cons (.ite (.and (.cmp .ne true (.nm 4) (.lst .nil)) (.one (.cmp .eq true (.sl true true (.ix true (.nm 4) (.neg (.cst (.int 1)))) .no (.yes (.cst (.int 2)))) (.tup (.cons true (.nm 6) (.cons true (.nm 7) .nil)))))) (.cons (.asg (.sub (.sl 4) (.neg (.cst (.int 1)))) [6, 7, 4, 5] (.tup (.cons true (.nm 6) (.cons true (.nm 7) (.cons true (.ix true (.ix true (.nm 4) (.neg (.cst (.int 1)))) (.cst (.int 2))) (.cons true (.bin .add true (.nm 5) (.cst (.int 1))) .nil)))))) .nil) (.cons (.ex (.mu .append (.sl 4) (.cons true (.tup (.cons true (.nm 6) (.cons true (.nm 7) (.cons true (.nm 5) (.cons true (.bin .add true (.nm 5) (.cst (.int 1))) .nil))))) .nil))) .nil)) .nil)) : Mn.Ss) = B at g ⊢
    generalize (clipL L first last).map segD = R at *
    simp [rngD, b1, b2, rngL_nfm, g]
  rw [show b_law_by_hours = ((.cons (.asg (.nm 4) [] (.lst .nil)) (.cons (.for_ (.nm 5) [2, 3] true (.rng2 (.nm 2) (.nm 3)) (.cons (.asg (.tup (.cons (.nm 6) (.cons (.nm 7) .nil))) [0, 1, 5] (.call true 7 (.cons true (.nm 0) (.cons true (.nm 1) (.cons true (.nm 5) .nil))))) (.cons (.ite (.and (.cmp .ne true (.nm 4) (.lst .nil)) (.one (.cmp .eq true (.sl true true (.ix true (.nm 4) (.neg (.cst (.int 1)))) .no (.yes (.cst (.int 2)))) (.tup (.cons true (.nm 6) (.cons true (.nm 7) .nil)))))) (.cons (.asg (.sub (.sl 4) (.neg (.cst (.int 1)))) [6, 7, 4, 5] (.tup (.cons true (.nm 6) (.cons true (.nm 7) (.cons true (.ix true (.ix true (.nm 4) (.neg (.cst (.int 1)))) (.cst (.int 2))) (.cons true (.bin .add true (.nm 5) (.cst (.int 1))) .nil)))))) .nil) (.cons (.ex (.mu .append (.sl 4) (.cons true (.tup (.cons true (.nm 6) (.cons true (.nm 7) (.cons true (.nm 5) (.cons true (.bin .add true (.nm 5) (.cst (.int 1))) .nil))))) .nil))) .nil)) .nil))) (.cons (.ret [4] (.mv 4)) .nil))) : Mn.Ss) from rfl, step_ e0, step_ e1]
  simp [nF, f_law_by_hours]
end Lawk13

namespace Lawk13
open PySem L2 Mn
theorem nd_inj {α β : Type} {f : α → β} : ∀ {xs : List α} {x y : α}, (xs.map f).Nodup → x ∈ xs → y ∈ xs → f x = f y → x = y
  | z :: zs, x, y, h, hx, hy, e => by
    rw [List.map_cons] at h
    obtain ⟨h1, h2⟩ := List.nodup_cons.mp h
    rcases List.mem_cons.mp hx with e1 | hx <;> rcases List.mem_cons.mp hy with e2 | hy
    · exact e1.trans e2.symm
    · exact absurd (show f z ∈ zs.map f by rw [← e1, e]; exact List.mem_map_of_mem (f := f) hy) h1
    · exact absurd (show f z ∈ zs.map f by rw [← e2, ← e]; exact List.mem_map_of_mem (f := f) hx) h1
    · exact nd_inj h2 hx hy e
/-- what is told of a window -/
structure Str_ (cs : List Col) (ws : List Wsh) (ts : List Trn) (first last : Int) (S : List Seg) : Prop where
  len : S.length ≤ 200
  ne : (S ≠ []) ↔ first < last
  ch : first < last → SCh first S last
  st : ∀ g, g ∈ S → ∀ h, g.2.1 ≤ h → h < g.2.2 → stF cs ws ts h = g.1
  nx : ∀ g, g ∈ S → g.2.2 < last → stF cs ws ts g.2.2 ≠ g.1
  lt : ∀ g, g ∈ S → g.2.1 < g.2.2 ∧ g.2.2 ≤ last
theorem str_ok {first last : Int} {cs : List Col} {ws : List Wsh} {ts : List Trn} (hp : PalOk cs ws) (hg : Good cs ws 1100000 ts) (hl : ts.length ≤ 30) (h0 : 0 ≤ first) (h1 : first ≤ last) (h2 : last ≤ 1000000) : Str_ cs ws ts first last (strF cs ws ts first last) := by
  rw [strF_top (top := top0) (by unfold top0; omega)]
  have ch := seg_ch hp hg hg.bnd ts.length (Nat.le_refl _)
  rw [bgn_end (Nat.le_refl _)] at ch
  have nd := seg_nd (cs := cs) (ws := ws) (top := top0) (ts := ts) ts.length
  have st := seg_st (top := top0) hp hg ts.length (Nat.le_refl _)
  have len := segK_len (cs := cs) (ws := ws) (ts := ts) (last := top0) ts.length
  generalize segK cs ws ts top0 ts.length = L at *
  have lc := clipL_len (L := L) (first := first) (last := last)
  have t0 : top0 = 2000000 := rfl
  refine ⟨by omega, ?_, fun h => ?_, fun x hx h k1 k2 => ?_, fun x hx hlt e => ?_, fun x hx => ?_⟩
  · by_cases c : first < last
    · have := clipL_ch (first := first) (last := last) ch (by omega)
      refine ⟨fun _ => c, fun _ z => ?_⟩
      rw [z] at this
      have this : max first 0 = min last top0 := this
      omega
    · have e : first = last := by omega
      subst e
      rw [clipL_nil]
      exact ⟨fun z => absurd rfl z, fun z => absurd z c⟩
  · have := clipL_ch (first := first) (last := last) ch (by omega)
    rw [show max first 0 = first by omega, show min last top0 = last by omega] at this
    exact this
  · obtain ⟨g, hg, rfl, hm⟩ := clipL_lab hx
    simp only at k1 k2
    exact st g hg h (by omega) (by omega)
  · obtain ⟨g, hg, rfl, hm⟩ := clipL_lab hx
    simp only at hlt e
    obtain ⟨A, g', B, rfl, q1, q2, _, _⟩ := ch.at (h := min g.2.2 last) (by omega) (by omega)
    have s1 := st g' (by simp) _ q1 q2
    rw [s1] at e
    have := nd_inj nd (by simp) hg e
    subst this
    omega
  · obtain ⟨g, hg, rfl, hm⟩ := clipL_lab hx
    simp only
    omega
theorem two_mul {x : D} : binD .mul (.lst false [x]) (.int 2) = some (.lst true [x, x]) := by
  show (if -(2 ^ 63 : Int) ≤ 2 ∧ (2 : Int) < 2 ^ 63 ∧ [x].length * (2 : Int).toNat ≤ sizeLine then some (D.lst true (List.replicate (2 : Int).toNat [x]).flatten) else none) = _
  rw [if_pos ⟨by decide, by decide, show 1 * (2 : Int).toNat ≤ sizeLine by decide⟩]
  rfl
theorem wB_ {n wf : Nat} {first last p : Int} {cs : List Col} {ws : List Wsh} {ts : List Trn} {S : List Seg} {g : Seg} {v4 : D} {v6 v7 v8 v9 v10 : Option D} (hn : 6 ≤ n) (hg : Good cs ws 1100000 ts) (hl : ts.length ≤ 30) (so : Str_ cs ws ts first last S) (gm : g ∈ S) (gp : g.2.1 = p) (gs : PyData.strOk g.1.1 = true) :
    ∃ v10', forB (callD fns wf n) wf ((.tup (.cons (.nm 6) (.cons (.nm 7) (.cons (.nm 8) (.cons (.nm 9) .nil))))) : Mn.T) ((.cons (.ite (.or (.cmp .ne true (.nm 8) (.nm 5)) (.one (.not (.chn .lt .le true true (.nm 8) (.nm 9) (.nm 3))))) (.cons (.ret [] (.cst (.bl false))) .nil) .nil) (.cons (.asg (.nm 10) [0, 1, 8, 9] (.lst (.cons true (.call true 7 (.cons true (.nm 0) (.cons true (.nm 1) (.cons true (.nm 8) .nil)))) (.cons true (.call true 7 (.cons true (.nm 0) (.cons true (.nm 1) (.cons true (.bin .sub true (.nm 9) (.cst (.int 1))) .nil)))) .nil)))) (.cons (.ite (.not (.call true 17 (.cons true (.nm 10) (.cons true (.shr (.bin .mul true (.lst (.cons true (.tup (.cons true (.nm 6) (.cons true (.nm 7) .nil))) .nil)) (.cst (.int 2)))) .nil)))) (.cons (.ret [] (.cst (.bl false))) .nil) .nil) (.cons (.ite (.and (.cmp .lt true (.nm 9) (.nm 3)) (.one (.cmp .eq true (.call true 7 (.cons true (.nm 0) (.cons true (.nm 1) (.cons true (.nm 9) .nil)))) (.tup (.cons true (.nm 6) (.cons true (.nm 7) .nil)))))) (.cons (.ret [] (.cst (.bl false))) .nil) .nil) (.cons (.asg (.nm 5) [9] (.nm 9)) .nil))))) : Mn.Ss) (segD g) [some (palD cs ws), some (.lst false (ts.map trnD)), some (.int first), some (.int last), some (v4), some (.int p), v6, v7, v8, v9, v10] = .nx [some (palD cs ws), some (.lst false (ts.map trnD)), some (.int first), some (.int last), some (v4), some (.int g.2.2), some (.str g.1.1), some (numD g.1.2), some (.int g.2.1), some (.int g.2.2), v10'] := by
  obtain ⟨l1, l2⟩ := so.lt g gm
  have e1 := stateN (n := n) (wf := wf) (h := g.2.1) (by omega) hg.nmd hg.flw (by omega : ts.length ≤ 100)
  have e2 := stateN (n := n) (wf := wf) (h := g.2.2 - 1) (by omega) hg.nmd hg.flw (by omega : ts.length ≤ 100)
  have e3 := stateN (n := n) (wf := wf) (h := g.2.2) (by omega) hg.nmd hg.flw (by omega : ts.length ≤ 100)
  rw [so.st g gm g.2.1 (Int.le_refl _) l1, staD_num] at e1
  rw [so.st g gm (g.2.2 - 1) (by omega) (by omega), staD_num] at e2
  rw [staD_num] at e3
  have kn : okD (numD g.1.2) = true := by cases g.1.2 <;> rfl
  have kd : dp (numD g.1.2) = 0 := by cases g.1.2 <;> rfl
  have kz : szD (numD g.1.2) = 0 := by cases g.1.2 <;> rfl
  have e4 := same_ (wf := wf) 2 n (.lst false [.tup [.str g.1.1, numD g.1.2], .tup [.str g.1.1, numD g.1.2]]) (by omega) (by simp [okD, okDs, gs, kn]) (by simp [frzs]) (by simp [dp, dps, kd]) (by simp [szD, szs, kz])
  have pf := pal_frz (cs := cs) (ws := ws)
  have fT := trns_frz (ts := ts)
  refine ⟨some (.lst true [.tup [.str g.1.1, numD g.1.2], .tup [.str g.1.1, numD g.1.2]]), ?_⟩
  have tm := two_mul (x := .tup [.str g.1.1, numD g.1.2])
  subst gp
  by_cases c : g.2.2 < last
  · have cb : ((stF cs ws ts g.2.2).1 == g.1.1 && decide ((stF cs ws ts g.2.2).2 = g.1.2)) = false := by
      have := so.nx g gm c
      rw [Bool.and_eq_false_iff]
      by_cases q : (stF cs ws ts g.2.2).1 = g.1.1
      · refine .inr (decide_eq_false fun z => this ?_)
        exact Prod.ext q z
      · exact .inl (by simpa using q)
    generalize stF cs ws ts g.2.2 = Q at *
    generalize palD cs ws = pal at *
    generalize ts.map trnD = T at *
    rw [forB]
    simp [segD, pf, fT, e1, e2, e3, e4, l1, l2, tm, c, cb, k_ne, k_eq, eq_num, pl_num, sizeLine, frzs]
  · generalize palD cs ws = pal at *
    generalize ts.map trnD = T at *
    rw [forB]
    simp [segD, pf, fT, e1, e2, e4, l1, l2, tm, c, k_ne, k_eq, eq_num, pl_num, sizeLine, frzs]
theorem sch_drop : ∀ {S : List Seg} {p q : Int} {i : Nat} {g : Seg}, SCh p S q → S[i]? = some g → ∃ r, SCh r (S.drop i) q ∧ g.2.1 = r
  | g0 :: S, p, q, 0, g, h, e => by
    cases e
    exact ⟨p, h, h.1⟩
  | g0 :: S, p, q, i + 1, g, h, e => by
    have := sch_drop (S := S) (i := i) h.2.2 (by simpa using e)
    rwa [List.drop_succ_cons]
theorem stF_str {cs : List Col} {ws : List Wsh} {ts : List Trn} {h : Int} : PyData.strOk (stF cs ws ts h).1 = true := by
  have w1 : PyData.strOk "filled" = true := by decide +kernel
  have w2 : PyData.strOk "melting" = true := by decide +kernel
  have w3 : PyData.strOk "ready" = true := by decide +kernel
  have w4 : PyData.strOk "worked" = true := by decide +kernel
  have w5 : PyData.strOk "washed" = true := by decide +kernel
  have w6 : PyData.strOk "out" = true := by decide +kernel
  unfold stF
  cases lastK ts h ts.length with
  | none => exact w6
  | some i =>
    unfold staV
    simp only
    split
    · split
      · show PyData.strOk (wordF _ _ _ _) = true
        unfold wordF
        repeat' split
        all_goals assumption
      · exact w6
    · exact w6
theorem Str_.str {cs : List Col} {ws : List Wsh} {ts : List Trn} {first last : Int} {S : List Seg} (so : Str_ cs ws ts first last S) {g : Seg} (hg : g ∈ S) : PyData.strOk g.1.1 = true := by
  rw [← so.st g hg g.2.1 (Int.le_refl _) (so.lt g hg).1]
  exact stF_str
theorem whole_ {n wf : Nat} {first last : Int} {cs : List Col} {ws : List Wsh} {ts : List Trn} (hn : 7 ≤ n) (hp : PalOk cs ws) (hg : Good cs ws 1100000 ts) (hl : ts.length ≤ 30) (h0 : 0 ≤ first) (h1 : first ≤ last) (h2 : last ≤ 1000000) : callD fns wf n 20 [palD cs ws, .lst false (ts.map trnD), .int first, .int last] = some (.bl true, []) := by
  obtain ⟨k, rfl⟩ : ∃ k, n = k + 1 := ⟨n - 1, by omega⟩
  have so := str_ok hp hg hl h0 h1 h2
  have e0 := stretches_ (n := k) (wf := wf) (first := first) (last := last) (by omega) hg.nmd hg.flw (by omega : ts.length ≤ 100)
  generalize strF cs ws ts first last = S at *
  obtain ⟨ρ', g, p, v6, v7, v8, v9, v10, hs, rfl⟩ := forL_run (fun i ρ => ∃ (p : Int) (v6 v7 v8 v9 v10 : Option D), (if first < last then SCh p (S.drop i) last else p = last) ∧ ρ = [some (palD cs ws), some (.lst false (ts.map trnD)), some (.int first), some (.int last), some (.lst true (S.map segD)), some (.int p), v6, v7, v8, v9, v10]) (f := forB (callD fns wf k) wf ((.tup (.cons (.nm 6) (.cons (.nm 7) (.cons (.nm 8) (.cons (.nm 9) .nil))))) : Mn.T) ((.cons (.ite (.or (.cmp .ne true (.nm 8) (.nm 5)) (.one (.not (.chn .lt .le true true (.nm 8) (.nm 9) (.nm 3))))) (.cons (.ret [] (.cst (.bl false))) .nil) .nil) (.cons (.asg (.nm 10) [0, 1, 8, 9] (.lst (.cons true (.call true 7 (.cons true (.nm 0) (.cons true (.nm 1) (.cons true (.nm 8) .nil)))) (.cons true (.call true 7 (.cons true (.nm 0) (.cons true (.nm 1) (.cons true (.bin .sub true (.nm 9) (.cst (.int 1))) .nil)))) .nil)))) (.cons (.ite (.not (.call true 17 (.cons true (.nm 10) (.cons true (.shr (.bin .mul true (.lst (.cons true (.tup (.cons true (.nm 6) (.cons true (.nm 7) .nil))) .nil)) (.cst (.int 2)))) .nil)))) (.cons (.ret [] (.cst (.bl false))) .nil) .nil) (.cons (.ite (.and (.cmp .lt true (.nm 9) (.nm 3)) (.one (.cmp .eq true (.call true 7 (.cons true (.nm 0) (.cons true (.nm 1) (.cons true (.nm 9) .nil)))) (.tup (.cons true (.nm 6) (.cons true (.nm 7) .nil)))))) (.cons (.ret [] (.cst (.bl false))) .nil) .nil) (.cons (.asg (.nm 5) [9] (.nm 9)) .nil))))) : Mn.Ss)) (xs := S.map segD) (fun i y ρ hy ⟨p, v6, v7, v8, v9, v10, hs, e⟩ => by
    subst e
    rw [List.getElem?_map] at hy
    obtain ⟨g, hgi, rfl⟩ := Option.map_eq_some_iff.mp hy
    have gm := List.mem_of_getElem? hgi
    have fl := so.ne.mp (fun z => by rw [z] at gm; cases gm)
    rw [if_pos fl] at hs
    rw [drop_at hgi] at hs
    obtain ⟨q1, q2, q3⟩ := hs
    obtain ⟨w10, e1⟩ := wB_ (n := k) (wf := wf) (v4 := .lst true (S.map segD)) (v6 := v6) (v7 := v7) (v8 := v8) (v9 := v9) (v10 := v10) (by omega) hg hl so gm q1 (so.str gm)
    exact ⟨_, .inl e1, g.2.2, _, _, _, _, _, by rw [if_pos fl]; exact q3, rfl⟩) (ρ := [some (palD cs ws), some (.lst false (ts.map trnD)), some (.int first), some (.int last), some (.lst true (S.map segD)), some (.int first), none, none, none, none, none]) ⟨first, none, none, none, none, none, by
      by_cases c : first < last
      · rw [if_pos c]; exact so.ch c
      · rw [if_neg c]; omega, rfl⟩
  rw [List.length_map] at hs
  have pl : p = last := by
    by_cases c : first < last
    · rw [if_pos c, List.drop_length] at hs; exact hs
    · rw [if_neg c] at hs; exact hs
  subst pl
  have ne : cmpD .ne (.lst false (S.map segD)) (.lst false []) = some (decide (first < p)) := by
    have pl : Mn.plain 60 (.lst false (S.map segD)) = true := by
      have : plains 59 (S.map segD) = true := plains_mapf (fun a => by simp [segD, pl_num]) _
      simp [this]
    rw [k_ne pl (by simp)]
    have := so.ne
    cases S with
    | nil =>
      have : ¬ first < p := fun z => (this.mpr z) rfl
      simp [this]
    | cons g S =>
      have : first < p := this.mp (by simp)
      simp [this]
  have pf := pal_frz (cs := cs) (ws := ws)
  have fT := trns_frz (ts := ts)
  have fS := segs_frz (gs := S)
  have nS := segs_nfm (gs := S)
  rw [callD_at (f := f_law_whole_right) rfl rfl]
  show runF f_law_whole_right (denSs _ _ b_law_whole_right [some (palD cs ws), some (.lst false (ts.map trnD)), some (.int first), some (.int p), none, none, none, none, none, none, none]) = _
  generalize palD cs ws = pal at *
  generalize ts.map trnD = T at *
  generalize S.map segD = SS at *
  have q0 : denS (callD fns wf k) wf ((.par [4, 5] [0, 1, 2, 3] (.cons true (.call true 9 (.cons true (.nm 0) (.cons true (.nm 1) (.cons true (.nm 2) (.cons true (.nm 3) .nil))))) (.cons true (.nm 2) .nil))) : Mn.S) [some (pal), some (.lst false T), some (.int first), some (.int p), none, none, none, none, none, none, none] = .nx [some (pal), some (.lst false T), some (.int first), some (.int p), some (.lst true SS), some (.int first), none, none, none, none, none] := by simp [pf, fT, e0, nS, frzS, List.mapIdx_cons]
  have q1 : denS (callD fns wf k) wf ((.ite (.or (.not (.isi (.nm 4) [.list])) (.one (.cmp .ne true (.cmp .lt true (.nm 2) (.nm 3)) (.cmp .ne true (.nm 4) (.lst .nil))))) (.cons (.ret [] (.cst (.bl false))) .nil) .nil) : Mn.S) [some (pal), some (.lst false T), some (.int first), some (.int p), some (.lst true SS), some (.int first), none, none, none, none, none] = .nx [some (pal), some (.lst false T), some (.int first), some (.int p), some (.lst true SS), some (.int first), none, none, none, none, none] := by
    have bb : cmpD .ne (.bl (decide (first < p))) (.bl (decide (first < p))) = some false := by rw [k_ne (by simp) (by simp)]; simp
    simp [fS, ne, isiT, bb, sizeLine]
  have q2 : denS (callD fns wf k) wf ((.for_ (.tup (.cons (.nm 6) (.cons (.nm 7) (.cons (.nm 8) (.cons (.nm 9) .nil))))) [4] true (.seq (.nm 4)) (.cons (.ite (.or (.cmp .ne true (.nm 8) (.nm 5)) (.one (.not (.chn .lt .le true true (.nm 8) (.nm 9) (.nm 3))))) (.cons (.ret [] (.cst (.bl false))) .nil) .nil) (.cons (.asg (.nm 10) [0, 1, 8, 9] (.lst (.cons true (.call true 7 (.cons true (.nm 0) (.cons true (.nm 1) (.cons true (.nm 8) .nil)))) (.cons true (.call true 7 (.cons true (.nm 0) (.cons true (.nm 1) (.cons true (.bin .sub true (.nm 9) (.cst (.int 1))) .nil)))) .nil)))) (.cons (.ite (.not (.call true 17 (.cons true (.nm 10) (.cons true (.shr (.bin .mul true (.lst (.cons true (.tup (.cons true (.nm 6) (.cons true (.nm 7) .nil))) .nil)) (.cst (.int 2)))) .nil)))) (.cons (.ret [] (.cst (.bl false))) .nil) .nil) (.cons (.ite (.and (.cmp .lt true (.nm 9) (.nm 3)) (.one (.cmp .eq true (.call true 7 (.cons true (.nm 0) (.cons true (.nm 1) (.cons true (.nm 9) .nil)))) (.tup (.cons true (.nm 6) (.cons true (.nm 7) .nil)))))) (.cons (.ret [] (.cst (.bl false))) .nil) .nil) (.cons (.asg (.nm 5) [9] (.nm 9)) .nil)))))) : Mn.S) [some (pal), some (.lst false T), some (.int first), some (.int p), some (.lst true SS), some (.int first), none, none, none, none, none] = .nx [some (pal), some (.lst false T), some (.int first), some (.int p), some (.lst true SS), some (.int p), v6, v7, v8, v9, v10] := by
    generalize ((.cons (.ite (.or (.cmp .ne true (.nm 8) (.nm 5)) (.one (.not (.chn .lt .le true true (.nm 8) (.nm 9) (.nm 3))))) (.cons (.ret [] (.cst (.bl false))) .nil) .nil) (.cons (.asg (.nm 10) [0, 1, 8, 9] (.lst (.cons true (.call true 7 (.cons true (.nm 0) (.cons true (.nm 1) (.cons true (.nm 8) .nil)))) (.cons true (.call true 7 (.cons true (.nm 0) (.cons true (.nm 1) (.cons true (.bin .sub true (.nm 9) (.cst (.int 1))) .nil)))) .nil)))) (.cons (.ite (.not (.call true 17 (.cons true (.nm 10) (.cons true (.shr (.bin .mul true (.lst (.cons true (.tup (.cons true (.nm 6) (.cons true (.nm 7) .nil))) .nil)) (.cst (.int 2)))) .nil)))) (.cons (.ret [] (.cst (.bl false))) .nil) .nil) (.cons (.ite (.and (.cmp .lt true (.nm 9) (.nm 3)) (.one (.cmp .eq true (.call true 7 (.cons true (.nm 0) (.cons true (.nm 1) (.cons true (.nm 9) .nil)))) (.tup (.cons true (.nm 6) (.cons true (.nm 7) .nil)))))) (.cons (.ret [] (.cst (.bl false))) .nil) .nil) (.cons (.asg (.nm 5) [9] (.nm 9)) .nil))))) : Mn.Ss) = B at g ⊢
    simp [fS, nS, g]
  rw [show b_law_whole_right = ((.cons (.par [4, 5] [0, 1, 2, 3] (.cons true (.call true 9 (.cons true (.nm 0) (.cons true (.nm 1) (.cons true (.nm 2) (.cons true (.nm 3) .nil))))) (.cons true (.nm 2) .nil))) (.cons (.ite (.or (.not (.isi (.nm 4) [.list])) (.one (.cmp .ne true (.cmp .lt true (.nm 2) (.nm 3)) (.cmp .ne true (.nm 4) (.lst .nil))))) (.cons (.ret [] (.cst (.bl false))) .nil) .nil) (.cons (.for_ (.tup (.cons (.nm 6) (.cons (.nm 7) (.cons (.nm 8) (.cons (.nm 9) .nil))))) [4] true (.seq (.nm 4)) (.cons (.ite (.or (.cmp .ne true (.nm 8) (.nm 5)) (.one (.not (.chn .lt .le true true (.nm 8) (.nm 9) (.nm 3))))) (.cons (.ret [] (.cst (.bl false))) .nil) .nil) (.cons (.asg (.nm 10) [0, 1, 8, 9] (.lst (.cons true (.call true 7 (.cons true (.nm 0) (.cons true (.nm 1) (.cons true (.nm 8) .nil)))) (.cons true (.call true 7 (.cons true (.nm 0) (.cons true (.nm 1) (.cons true (.bin .sub true (.nm 9) (.cst (.int 1))) .nil)))) .nil)))) (.cons (.ite (.not (.call true 17 (.cons true (.nm 10) (.cons true (.shr (.bin .mul true (.lst (.cons true (.tup (.cons true (.nm 6) (.cons true (.nm 7) .nil))) .nil)) (.cst (.int 2)))) .nil)))) (.cons (.ret [] (.cst (.bl false))) .nil) .nil) (.cons (.ite (.and (.cmp .lt true (.nm 9) (.nm 3)) (.one (.cmp .eq true (.call true 7 (.cons true (.nm 0) (.cons true (.nm 1) (.cons true (.nm 9) .nil)))) (.tup (.cons true (.nm 6) (.cons true (.nm 7) .nil)))))) (.cons (.ret [] (.cst (.bl false))) .nil) .nil) (.cons (.asg (.nm 5) [9] (.nm 9)) .nil)))))) (.cons (.ret [5, 3] (.cmp .eq true (.nm 5) (.nm 3))) .nil)))) : Mn.Ss) from rfl, step_ q0, step_ q1, step_ q2]
  simp [k_eq, f_law_whole_right]
end Lawk13

namespace Lawk13
open PySem L2 Mn
def three (hs : List Int) : List Int := hs.flatMap fun h => [h - 1, h, h + 1]
theorem three_len {hs : List Int} : (three hs).length = 3 * hs.length := by
  unfold three
  induction hs with
  | nil => rfl
  | cons h hs ih => rw [List.flatMap_cons, List.length_append, ih, List.length_cons]; simp; omega
theorem ext_ {n wf : Nat} {pal TT v3 v4 v5 v6 v7 v8 v9 v10 v11 : D} {v12 : Option D} {fs hs : List Int} (hf : fs.length + 3 * hs.length ≤ 1000) :
    ∃ v12', forL (forB (callD fns wf n) wf ((.nm 12) : Mn.T) ((.cons (.ex (.mu .extend (.sl 2) (.cons true (.lst (.cons true (.bin .sub true (.nm 12) (.cst (.int 1))) (.cons true (.nm 12) (.cons true (.bin .add true (.nm 12) (.cst (.int 1))) .nil)))) .nil))) .nil) : Mn.Ss)) (hs.map .int) [some (pal), some (TT), some (.lst true (fs.map .int)), some (v3), some (v4), some (v5), some (v6), some (v7), some (v8), some (v9), some (v10), some (v11), v12] = .nx [some (pal), some (TT), some (.lst true ((fs ++ three hs).map .int)), some (v3), some (v4), some (v5), some (v6), some (v7), some (v8), some (v9), some (v10), some (v11), v12'] := by
  induction hs generalizing fs v12 with
  | nil => exact ⟨v12, by rw [List.map_nil, forL]; simp [three]⟩
  | cons h hs ih =>
    rw [List.length_cons] at hf
    obtain ⟨w, e⟩ := ih (fs := fs ++ [h - 1, h, h + 1]) (v12 := some (.int h)) (by simp; omega)
    refine ⟨w, ?_⟩
    have l1 : fs.length + 3 ≤ 16777216 := by omega
    have e0 : forB (callD fns wf n) wf ((.nm 12) : Mn.T) ((.cons (.ex (.mu .extend (.sl 2) (.cons true (.lst (.cons true (.bin .sub true (.nm 12) (.cst (.int 1))) (.cons true (.nm 12) (.cons true (.bin .add true (.nm 12) (.cst (.int 1))) .nil)))) .nil))) .nil) : Mn.Ss) (.int h) [some (pal), some (TT), some (.lst true (fs.map .int)), some (v3), some (v4), some (v5), some (v6), some (v7), some (v8), some (v9), some (v10), some (v11), v12] = .nx [some (pal), some (TT), some (.lst true ((fs ++ [h - 1, h, h + 1]).map .int)), some (v3), some (v4), some (v5), some (v6), some (v7), some (v8), some (v9), some (v10), some (v11), some (.int h)] := by
      rw [forB]
      simp [l1, sizeLine]
    rw [List.map_cons, forL, e0]
    simp only
    rw [e, show fs ++ three (h :: hs) = fs ++ [h - 1, h, h + 1] ++ three hs by simp [three]]
theorem edgeB_ {n wf i : Nat} {cs : List Col} {ws : List Wsh} {ts : List Trn} {t : Trn} {c : Col} {fs : List Int} {v8 v9 v10 v11 v12 : Option D} (hn : 1 ≤ n) (hp : PalOk cs ws) (hf : Flw ws ts) (ht : ts[i]? = some t) (hc : colF cs t.2.1 = some c) (hl : fs.length ≤ 700) :
    ∃ v8' v9' v10' v11' v12', denSs (callD fns wf n) wf ((.cons (.asg (.tup (.cons (.nm 8) (.cons (.nm 9) .nil))) [0, 5] (.call true 15 (.cons true (.nm 0) (.cons true (.nm 5) .nil)))) (.cons (.asg (.nm 10) [1, 3] (.sl true true (.nm 1) (.yes (.bin .add true (.nm 3) (.cst (.int 1)))) (.yes (.bin .add true (.nm 3) (.cst (.int 2)))))) (.cons (.asg (.nm 11) [10, 0, 5] (.ifx (.cmp .ne true (.nm 10) (.lst .nil)) (.call true 14 (.cons true (.nm 0) (.cons true (.nm 5) (.cons true (.ix true (.ix true (.nm 10) (.cst (.int 0))) (.cst (.int 1))) .nil)))) (.cst (.int 0)))) (.cons (.for_ (.nm 12) [4, 8, 9, 6, 7, 11] true (.seq (.tup (.cons true (.nm 4) (.cons true (.bin .add true (.nm 4) (.nm 8)) (.cons true (.bin .add true (.bin .add true (.nm 4) (.nm 8)) (.nm 9)) (.cons true (.nm 6) (.cons true (.nm 7) (.cons true (.bin .add true (.nm 7) (.nm 11)) .nil)))))))) (.cons (.ex (.mu .extend (.sl 2) (.cons true (.lst (.cons true (.bin .sub true (.nm 12) (.cst (.int 1))) (.cons true (.nm 12) (.cons true (.bin .add true (.nm 12) (.cst (.int 1))) .nil)))) .nil))) .nil)) .nil)))) : Mn.Ss) [some (palD cs ws), some (.lst false (ts.map trnD)), some (.lst true (fs.map .int)), some (.int (i : Nat)), some (.int t.1), some (.str t.2.1), some (.int t.2.2.1), some (.int t.2.2.2), v8, v9, v10, v11, v12] =
      .nx [some (palD cs ws), some (.lst false (ts.map trnD)), some (.lst true ((fs ++ three [t.1, t.1 + c.2.1, t.1 + c.2.1 + c.2.2.1, t.2.2.1, t.2.2.2, t.2.2.2 + wbF ws ts i]).map .int)), some (.int (i : Nat)), some (.int t.1), some (.str t.2.1), some (.int t.2.2.1), some (.int t.2.2.2), v8', v9', v10', v11', v12'] := by
  obtain ⟨k, rfl⟩ : ∃ k, n = k + 1 := ⟨n - 1, by omega⟩
  have e1 := hours_ (n := k) (wf := wf) (ws := ws) hp.cl hc
  have lt := later_ (n := k) (wf := wf) hp hf ht
  have pf := pal_frz (cs := cs) (ws := ws)
  have fT := trns_frz (ts := ts)
  have cut : cutL (ts.map trnD) (some ((i : Int) + 1)) (some ((i : Int) + 2)) = (ts[i + 1]?).toList.map trnD := by
    rw [cut_one, List.getElem?_map]
    cases ts[i + 1]? <;> rfl
  have ex := fun v10 v11 => ext_ (n := k + 1) (wf := wf) (pal := palD cs ws) (TT := .lst false (ts.map trnD)) (v3 := .int (i : Nat)) (v4 := .int t.1) (v5 := .str t.2.1) (v6 := .int t.2.2.1) (v7 := .int t.2.2.2) (v8 := .int c.2.1) (v9 := .int c.2.2.1) (v10 := v10) (v11 := v11) (v12 := v12) (fs := fs) (hs := [t.1, t.1 + c.2.1, t.1 + c.2.1 + c.2.2.1, t.2.2.1, t.2.2.2, t.2.2.2 + wbF ws ts i]) (by simp; omega)
  rcases lt with ⟨l1, l2⟩ | ⟨u, l1, l2⟩
  · rw [l1] at cut
    have cut : cutL (ts.map trnD) (some ((i : Int) + 1)) (some ((i : Int) + 2)) = [] := cut
    obtain ⟨w, e⟩ := ex (.lst true []) (.int 0)
    clear ex
    refine ⟨some (.int c.2.1), some (.int c.2.2.1), some (.lst true []), some (.int 0), w, ?_⟩
    generalize ((.cons (.ex (.mu .extend (.sl 2) (.cons true (.lst (.cons true (.bin .sub true (.nm 12) (.cst (.int 1))) (.cons true (.nm 12) (.cons true (.bin .add true (.nm 12) (.cst (.int 1))) .nil)))) .nil))) .nil) : Mn.Ss) = B at e ⊢
    generalize wbF ws ts i = W at *
    subst l2
    generalize palD cs ws = pal at *
    generalize ts.map trnD = T at *
    generalize (fs ++ three _).map D.int = R at *
    simp only [List.map_cons, List.map_nil, Int.add_zero] at e
    simp [pf, fT, e1, cut, k_ne, e, sizeLine]
  · rw [l1] at cut
    have cut : cutL (ts.map trnD) (some ((i : Int) + 1)) (some ((i : Int) + 2)) = [trnD u] := cut
    have tu : trnD u = .tup [.int u.1, .str u.2.1, .int u.2.2.1, .int u.2.2.2] := rfl
    obtain ⟨w, e⟩ := ex (.lst true [trnD u]) (.int (wbF ws ts i))
    clear ex
    refine ⟨some (.int c.2.1), some (.int c.2.2.1), some (.lst true [trnD u]), some (.int (wbF ws ts i)), w, ?_⟩
    generalize ((.cons (.ex (.mu .extend (.sl 2) (.cons true (.lst (.cons true (.bin .sub true (.nm 12) (.cst (.int 1))) (.cons true (.nm 12) (.cons true (.bin .add true (.nm 12) (.cst (.int 1))) .nil)))) .nil))) .nil) : Mn.Ss) = B at e ⊢
    generalize palD cs ws = pal at *
    generalize ts.map trnD = T at *
    generalize (fs ++ three _).map D.int = R at *
    simp only [List.map_cons, List.map_nil, tu] at e
    rw [tu] at cut
    simp [pf, fT, e1, l2, tu, cut, k_ne, e, sizeLine]
theorem insU_le {k : Int} : ∀ {xs : List Int}, (insU k xs).length ≤ xs.length + 1
  | [] => Nat.le_refl _
  | x :: xs => by
    unfold insU
    split
    · exact Nat.le_refl _
    · split
      · exact Nat.le_succ _
      · rw [List.length_cons, List.length_cons]
        have := insU_le (k := k) (xs := xs)
        omega
theorem srt_le : ∀ {ks : List Int}, (srt ks).length ≤ ks.length
  | [] => Nat.le_refl _
  | k :: ks => by
    show (insU k (srt ks)).length ≤ ks.length + 1
    have := insU_le (k := k) (xs := srt ks)
    have := srt_le (ks := ks)
    omega
structure EdgeOk (es : List Int) : Prop where
  len : es.length ≤ 700
  rng : ∀ e, e ∈ es → 0 ≤ e ∧ e ≤ 1000000
  zero : 0 ∈ es
  inc : es.Pairwise (· < ·)
theorem edges_ {n wf : Nat} {cs : List Col} {ws : List Wsh} {ts : List Trn} (hn : 2 ≤ n) (hp : PalOk cs ws) (hm : Nmd cs ts) (hf : Flw ws ts) (hl : ts.length ≤ 30) : ∃ es : List Int, callD fns wf n 18 [palD cs ws, .lst false (ts.map trnD)] = some (.lst true (es.map .int), []) ∧ EdgeOk es := by
  obtain ⟨k, rfl⟩ : ∃ k, n = k + 1 := ⟨n - 1, by omega⟩
  rw [callD_at (f := f_law_edges) rfl rfl]
  show ∃ es : List Int, runF f_law_edges (denSs _ _ b_law_edges [some (palD cs ws), some (.lst false (ts.map trnD)), none, none, none, none, none, none, none, none, none, none, none]) = _ ∧ _
  have pf := pal_frz (cs := cs) (ws := ws)
  have fT := trns_frz (ts := ts)
  have e0 : denS (callD fns wf k) wf ((.asg (.nm 2) [] (.lst (.cons true (.cst (.int 0)) (.cons true (.bin .pow true (.cst (.int 10)) (.cst (.int 6))) .nil)))) : Mn.S) [some (palD cs ws), some (.lst false (ts.map trnD)), none, none, none, none, none, none, none, none, none, none, none] = .nx [some (palD cs ws), some (.lst false (ts.map trnD)), some (.lst true ([0, 1000000].map .int)), none, none, none, none, none, none, none, none, none, none] := by
    generalize palD cs ws = pal at *
    generalize ts.map trnD = T at *
    simp [sizeLine]
  obtain ⟨ρ', g, fs, v3, v4, v5, v6, v7, v8, v9, v10, v11, v12, hlen, hz, rfl⟩ := forL_run (fun i ρ => ∃ (fs : List Int) (v3 v4 v5 v6 v7 v8 v9 v10 v11 v12 : Option D), fs.length = 2 + 18 * i ∧ 0 ∈ fs ∧ ρ = [some (palD cs ws), some (.lst false (ts.map trnD)), some (.lst true (fs.map .int)), v3, v4, v5, v6, v7, v8, v9, v10, v11, v12]) (f := forB (callD fns wf k) wf ((.tup (.cons (.nm 3) (.cons (.tup (.cons (.nm 4) (.cons (.nm 5) (.cons (.nm 6) (.cons (.nm 7) .nil))))) .nil))) : Mn.T) ((.cons (.asg (.tup (.cons (.nm 8) (.cons (.nm 9) .nil))) [0, 5] (.call true 15 (.cons true (.nm 0) (.cons true (.nm 5) .nil)))) (.cons (.asg (.nm 10) [1, 3] (.sl true true (.nm 1) (.yes (.bin .add true (.nm 3) (.cst (.int 1)))) (.yes (.bin .add true (.nm 3) (.cst (.int 2)))))) (.cons (.asg (.nm 11) [10, 0, 5] (.ifx (.cmp .ne true (.nm 10) (.lst .nil)) (.call true 14 (.cons true (.nm 0) (.cons true (.nm 5) (.cons true (.ix true (.ix true (.nm 10) (.cst (.int 0))) (.cst (.int 1))) .nil)))) (.cst (.int 0)))) (.cons (.for_ (.nm 12) [4, 8, 9, 6, 7, 11] true (.seq (.tup (.cons true (.nm 4) (.cons true (.bin .add true (.nm 4) (.nm 8)) (.cons true (.bin .add true (.bin .add true (.nm 4) (.nm 8)) (.nm 9)) (.cons true (.nm 6) (.cons true (.nm 7) (.cons true (.bin .add true (.nm 7) (.nm 11)) .nil)))))))) (.cons (.ex (.mu .extend (.sl 2) (.cons true (.lst (.cons true (.bin .sub true (.nm 12) (.cst (.int 1))) (.cons true (.nm 12) (.cons true (.bin .add true (.nm 12) (.cst (.int 1))) .nil)))) .nil))) .nil)) .nil)))) : Mn.Ss)) (xs := enumL 0 (ts.map trnD)) (fun i y ρ hy ⟨fs, v3, v4, v5, v6, v7, v8, v9, v10, v11, v12, hlen, hz, e⟩ => by
    subst e
    rw [enum_get, List.getElem?_map, Option.map_map] at hy
    obtain ⟨t, ht, rfl⟩ := Option.map_eq_some_iff.mp hy
    have hi := (List.getElem?_eq_some_iff.mp ht).1
    obtain ⟨c, hc⟩ := hm t (List.mem_of_getElem? ht)
    obtain ⟨w8, w9, w10, w11, w12, e1⟩ := edgeB_ (n := k) (wf := wf) (fs := fs) (v8 := v8) (v9 := v9) (v10 := v10) (v11 := v11) (v12 := v12) (by omega) hp hf ht hc (by omega)
    rw [show ((fun x => D.tup [D.int ((0 + i : Nat) : Int), x]) ∘ trnD) t = D.tup [.int (i : Nat), trnD t] by simp]
    exact ⟨_, .inl (fstep (by simp [trnD]) e1), _, _, _, _, _, _, _, _, _, _, _, by rw [List.length_append, three_len, hlen]; simp; omega, List.mem_append_left _ hz, rfl⟩) (ρ := [some (palD cs ws), some (.lst false (ts.map trnD)), some (.lst true ([0, 1000000].map .int)), none, none, none, none, none, none, none, none, none, none]) ⟨[0, 1000000], none, none, none, none, none, none, none, none, none, none, rfl, by simp, rfl⟩
  rw [enum_len, List.length_map] at hlen
  have e1 : denS (callD fns wf k) wf ((.for_ (.tup (.cons (.nm 3) (.cons (.tup (.cons (.nm 4) (.cons (.nm 5) (.cons (.nm 6) (.cons (.nm 7) .nil))))) .nil))) [1] false (.enum (.nm 1)) (.cons (.asg (.tup (.cons (.nm 8) (.cons (.nm 9) .nil))) [0, 5] (.call true 15 (.cons true (.nm 0) (.cons true (.nm 5) .nil)))) (.cons (.asg (.nm 10) [1, 3] (.sl true true (.nm 1) (.yes (.bin .add true (.nm 3) (.cst (.int 1)))) (.yes (.bin .add true (.nm 3) (.cst (.int 2)))))) (.cons (.asg (.nm 11) [10, 0, 5] (.ifx (.cmp .ne true (.nm 10) (.lst .nil)) (.call true 14 (.cons true (.nm 0) (.cons true (.nm 5) (.cons true (.ix true (.ix true (.nm 10) (.cst (.int 0))) (.cst (.int 1))) .nil)))) (.cst (.int 0)))) (.cons (.for_ (.nm 12) [4, 8, 9, 6, 7, 11] true (.seq (.tup (.cons true (.nm 4) (.cons true (.bin .add true (.nm 4) (.nm 8)) (.cons true (.bin .add true (.bin .add true (.nm 4) (.nm 8)) (.nm 9)) (.cons true (.nm 6) (.cons true (.nm 7) (.cons true (.bin .add true (.nm 7) (.nm 11)) .nil)))))))) (.cons (.ex (.mu .extend (.sl 2) (.cons true (.lst (.cons true (.bin .sub true (.nm 12) (.cst (.int 1))) (.cons true (.nm 12) (.cons true (.bin .add true (.nm 12) (.cst (.int 1))) .nil)))) .nil))) .nil)) .nil))))) : Mn.S) [some (palD cs ws), some (.lst false (ts.map trnD)), some (.lst true ([0, 1000000].map .int)), none, none, none, none, none, none, none, none, none, none] = .nx [some (palD cs ws), some (.lst false (ts.map trnD)), some (.lst true (fs.map .int)), v3, v4, v5, v6, v7, v8, v9, v10, v11, v12] := by
    generalize ((.cons (.asg (.tup (.cons (.nm 8) (.cons (.nm 9) .nil))) [0, 5] (.call true 15 (.cons true (.nm 0) (.cons true (.nm 5) .nil)))) (.cons (.asg (.nm 10) [1, 3] (.sl true true (.nm 1) (.yes (.bin .add true (.nm 3) (.cst (.int 1)))) (.yes (.bin .add true (.nm 3) (.cst (.int 2)))))) (.cons (.asg (.nm 11) [10, 0, 5] (.ifx (.cmp .ne true (.nm 10) (.lst .nil)) (.call true 14 (.cons true (.nm 0) (.cons true (.nm 5) (.cons true (.ix true (.ix true (.nm 10) (.cst (.int 0))) (.cst (.int 1))) .nil)))) (.cst (.int 0)))) (.cons (.for_ (.nm 12) [4, 8, 9, 6, 7, 11] true (.seq (.tup (.cons true (.nm 4) (.cons true (.bin .add true (.nm 4) (.nm 8)) (.cons true (.bin .add true (.bin .add true (.nm 4) (.nm 8)) (.nm 9)) (.cons true (.nm 6) (.cons true (.nm 7) (.cons true (.bin .add true (.nm 7) (.nm 11)) .nil)))))))) (.cons (.ex (.mu .extend (.sl 2) (.cons true (.lst (.cons true (.bin .sub true (.nm 12) (.cst (.int 1))) (.cons true (.nm 12) (.cons true (.bin .add true (.nm 12) (.cst (.int 1))) .nil)))) .nil))) .nil)) .nil)))) : Mn.Ss) = B at g ⊢
    generalize palD cs ws = pal at *
    generalize ts.map trnD = T at *
    generalize [0, 1000000].map D.int = Z at *
    simp [fT, g, frzS, List.mapIdx_cons]
  obtain ⟨ρ2, g2, ⟨w12, rfl⟩⟩ := lcL_map (own := [12]) (q := false) (body := lcB (callD fns wf k) (.nm 12) (.yes (.chn .le .le true true (.cst (.int 0)) (.nm 12) (.bin .pow true (.cst (.int 10)) (.cst (.int 6))))) (.nm 12)) (zs := fs) (f := D.int) (fun e => if decide (0 ≤ e ∧ e ≤ 1000000) = true then some (.int e) else none) (fun x d _ e => by
      by_cases c : decide (0 ≤ x ∧ x ≤ 1000000) = true
      · rw [if_pos c] at e; cases e; exact .inr rfl
      · rw [if_neg c] at e; cases e)
    (fun ρ => ∃ w, ρ = [some (palD cs ws), some (.lst false (ts.map trnD)), some (.lst true (fs.map .int)), v3, v4, v5, v6, v7, v8, v9, v10, v11, w]) (fun e ρ _ ⟨u, eq⟩ => by
      subst eq
      refine ⟨[some (palD cs ws), some (.lst false (ts.map trnD)), some (.lst true (fs.map .int)), v3, v4, v5, v6, v7, v8, v9, v10, v11, some (.int e)], ⟨_, rfl⟩, ?_⟩
      by_cases c1 : 0 ≤ e
      · by_cases c2 : e ≤ 1000000 <;> simp [lcB, wipeS, c1, c2]
      · simp [lcB, wipeS, c1]) (ρ := [some (palD cs ws), some (.lst false (ts.map trnD)), some (.lst true (fs.map .int)), v3, v4, v5, v6, v7, v8, v9, v10, v11, v12]) ⟨v12, rfl⟩
  rw [fm_filter (fun e : Int => decide (0 ≤ e ∧ e ≤ 1000000)) D.int] at g2
  have lf := List.length_filter_le (fun e : Int => decide (0 ≤ e ∧ e ≤ 1000000)) fs
  have mf : ∀ e, e ∈ fs.filter (fun e : Int => decide (0 ≤ e ∧ e ≤ 1000000)) ↔ e ∈ fs ∧ (0 ≤ e ∧ e ≤ 1000000) := fun e => by rw [List.mem_filter, decide_eq_true_iff]
  generalize fs.filter (fun e : Int => decide (0 ≤ e ∧ e ≤ 1000000)) = gs at g2 lf mf
  have sl := srt_le (ks := gs)
  refine ⟨srt gs, ?_, by omega, fun e he => ((mf e).mp (srt_mem.mp he)).2, srt_mem.mpr ((mf 0).mpr ⟨hz, by omega, by omega⟩), srt_sorted⟩
  have fg : frzs (gs.map D.int) = gs.map D.int := frzs_mapf (fun _ => rfl) gs
  have ng : (gs.map D.int).length ≤ 16777216 := by rw [List.length_map]; omega
  have nn : nfms (fs.map D.int) = true := nfms_mapf (fun _ => rfl) fs
  have ff : frzs (fs.map D.int) = fs.map D.int := frzs_mapf (fun _ => rfl) fs
  have sd : srtD (.lst false (gs.map D.int)) = some (.lst true ((srt gs).map .int)) := by
    have : ints? (gs.map D.int) = some gs := by
      clear g2 lf mf sl fg ng
      induction gs with
      | nil => rfl
      | cons g gs ih => rw [List.map_cons, ints?, ih]; rfl
    rw [f_srt, this]
    show (if gs.length ≤ 4000 ∧ (srt gs).length ≤ 4000 then _ else none) = _
    rw [if_pos ⟨by omega, by omega⟩]
  have ns : nfms ((srt gs).map D.int) = true := nfms_mapf (fun _ => rfl) _
  rw [show b_law_edges = ((.cons (.asg (.nm 2) [] (.lst (.cons true (.cst (.int 0)) (.cons true (.bin .pow true (.cst (.int 10)) (.cst (.int 6))) .nil)))) (.cons (.for_ (.tup (.cons (.nm 3) (.cons (.tup (.cons (.nm 4) (.cons (.nm 5) (.cons (.nm 6) (.cons (.nm 7) .nil))))) .nil))) [1] false (.enum (.nm 1)) (.cons (.asg (.tup (.cons (.nm 8) (.cons (.nm 9) .nil))) [0, 5] (.call true 15 (.cons true (.nm 0) (.cons true (.nm 5) .nil)))) (.cons (.asg (.nm 10) [1, 3] (.sl true true (.nm 1) (.yes (.bin .add true (.nm 3) (.cst (.int 1)))) (.yes (.bin .add true (.nm 3) (.cst (.int 2)))))) (.cons (.asg (.nm 11) [10, 0, 5] (.ifx (.cmp .ne true (.nm 10) (.lst .nil)) (.call true 14 (.cons true (.nm 0) (.cons true (.nm 5) (.cons true (.ix true (.ix true (.nm 10) (.cst (.int 0))) (.cst (.int 1))) .nil)))) (.cst (.int 0)))) (.cons (.for_ (.nm 12) [4, 8, 9, 6, 7, 11] true (.seq (.tup (.cons true (.nm 4) (.cons true (.bin .add true (.nm 4) (.nm 8)) (.cons true (.bin .add true (.bin .add true (.nm 4) (.nm 8)) (.nm 9)) (.cons true (.nm 6) (.cons true (.nm 7) (.cons true (.bin .add true (.nm 7) (.nm 11)) .nil)))))))) (.cons (.ex (.mu .extend (.sl 2) (.cons true (.lst (.cons true (.bin .sub true (.nm 12) (.cst (.int 1))) (.cons true (.nm 12) (.cons true (.bin .add true (.nm 12) (.cst (.int 1))) .nil)))) .nil))) .nil)) .nil))))) (.cons (.ret [2, 12] (.srt (.lc [12] true false (.nm 12) [2] (.seq (.nm 2)) (.yes (.chn .le .le true true (.cst (.int 0)) (.nm 12) (.bin .pow true (.cst (.int 10)) (.cst (.int 6))))) (.nm 12)))) .nil))) : Mn.Ss) from rfl, step_ e0, step_ e1]
  generalize palD cs ws = pal at *
  generalize ts.map trnD = T at *
  generalize fs.map D.int = F at *
  generalize gs.map D.int = G at *
  simp [-f_srt, ff, nn, g2, fg, ng, sd, ns, restS, keptS, sizeLine, f_law_edges]
end Lawk13

namespace Lawk13
open PySem L2 Mn
/-! showing -/
theorem sh_pal {cs : List Col} {ws : List Wsh} (hp : PalOk cs ws) : Sh 15000 (palD cs ws) := by
  have h1 : Sh 1980 (.tup (cs.map colD)) := (Sh.tup (n := 164) fun x hx => by
    obtain ⟨c, hc, rfl⟩ := List.mem_map.mp hx
    obtain ⟨k1, k2, k3, k4⟩ := hp.cok c hc
    refine Sh.tup (n := 40) (xs := [.str c.1, .int c.2.1, .int c.2.2.1, .int c.2.2.2]) fun y hy => ?_
    simp at hy
    rcases hy with rfl | rfl | rfl | rfl
    · exact (Sh.str k1).up (by omega)
    · exact Sh.int (by omega)
    · exact Sh.int (by omega)
    · exact Sh.int (by omega)).up (by rw [List.length_map]; have := hp.cl; omega)
  have h2 : Sh 7440 (.tup (ws.map wshD)) := (Sh.tup (n := 123) fun x hx => by
    obtain ⟨w, hw, rfl⟩ := List.mem_map.mp hx
    obtain ⟨k1, k2, k3, k4⟩ := hp.wok w hw
    refine Sh.tup (n := 40) (xs := [.str w.1, .str w.2.1, hrD w.2.2]) fun y hy => ?_
    simp at hy
    rcases hy with rfl | rfl | rfl
    · exact (Sh.str k1).up (by omega)
    · exact (Sh.str k2).up (by omega)
    · cases h : w.2.2 with
      | none => exact Sh.non.up (by omega)
      | some v => have := k4 v h; exact Sh.int (by omega)).up (by rw [List.length_map]; have := hp.wl; omega)
  refine (Sh.tup (n := 7440) (xs := [.tup (cs.map colD), .tup (ws.map wshD)]) fun x hx => ?_).up (by simp)
  simp at hx
  rcases hx with rfl | rfl
  · exact h1.up (by omega)
  · exact h2
theorem ok_pal {cs : List Col} {ws : List Wsh} (hp : PalOk cs ws) : okD (palD cs ws) = true ∧ dp (palD cs ws) ≤ 3 := by
  have h1 : okDs (cs.map colD) = true ∧ dps (cs.map colD) ≤ 1 := ⟨ok_all fun x hx => by
    obtain ⟨c, hc, rfl⟩ := List.mem_map.mp hx
    have := (hp.cok c hc).1
    have := strOk_list.mpr this.2
    simp [colD, okD, okDs, this], dps_le fun x hx => by
    obtain ⟨c, hc, rfl⟩ := List.mem_map.mp hx
    simp [colD, dp, dps]⟩
  have h2 : okDs (ws.map wshD) = true ∧ dps (ws.map wshD) ≤ 1 := ⟨ok_all fun x hx => by
    obtain ⟨w, hw, rfl⟩ := List.mem_map.mp hx
    obtain ⟨k1, k2, _⟩ := hp.wok w hw
    have := strOk_list.mpr k1.2
    have := strOk_list.mpr k2.2
    have k3 : okD (hrD w.2.2) = true := by cases w.2.2 <;> rfl
    simp [wshD, okD, okDs, *], dps_le fun x hx => by
    obtain ⟨w, hw, rfl⟩ := List.mem_map.mp hx
    have k3 : dp (hrD w.2.2) = 0 := by cases w.2.2 <;> rfl
    simp [wshD, dp, dps, k3]⟩
  have := h1.2
  have := h2.2
  refine ⟨by simp [palD, okD, okDs, h1.1, h2.1], ?_⟩
  simp only [palD, dp, dps]
  omega
theorem sh_trns {cs : List Col} {ts : List Trn} {o : Bool} (hl : ts.length ≤ 30) (h : TsB cs ts) : Sh 4950 (.lst o (ts.map trnD)) :=
  (Sh.lst (n := 164) fun x hx => by
    obtain ⟨t, ht, rfl⟩ := List.mem_map.mp hx
    obtain ⟨k1, k2, k3, k4, _⟩ := h t ht
    refine Sh.tup (n := 40) (xs := [.int t.1, .str t.2.1, .int t.2.2.1, .int t.2.2.2]) fun y hy => ?_
    simp at hy
    rcases hy with rfl | rfl | rfl | rfl
    · exact Sh.int (by omega)
    · exact (Sh.str k1).up (by omega)
    · exact Sh.int (by omega)
    · exact Sh.int (by omega)).up (by rw [List.length_map]; omega)
theorem ok_trns {cs : List Col} {ts : List Trn} {o : Bool} (h : TsB cs ts) : okD (.lst o (ts.map trnD)) = true ∧ dp (.lst o (ts.map trnD)) ≤ 3 := by
  have h1 : okDs (ts.map trnD) = true ∧ dps (ts.map trnD) ≤ 1 := ⟨ok_all fun x hx => by
    obtain ⟨t, ht, rfl⟩ := List.mem_map.mp hx
    have := strOk_list.mpr (h t ht).nm.2
    simp [trnD, okD, okDs, this], dps_le fun x hx => by
    obtain ⟨t, ht, rfl⟩ := List.mem_map.mp hx
    simp [trnD, dp, dps]⟩
  have := h1.2
  exact ⟨h1.1, by simp only [dp]; omega⟩
theorem repr_ {cs : List Col} {ws : List Wsh} {ts : List Trn} (hp : PalOk cs ws) (hl : ts.length ≤ 30) (h : TsB cs ts) : ∃ x, biD .repr [.lst false [palD cs ws, .lst false (ts.map trnD)]] = some (.str x) := by
  have s1 := sh_pal hp
  have s2 := sh_trns (o := false) hl h
  have o1 := ok_pal hp
  have o2 := ok_trns (o := false) h
  have s3 : Sh 30002 (.lst false [palD cs ws, .lst false (ts.map trnD)]) := (Sh.lst (n := 15000) (o := false) (xs := [palD cs ws, .lst false (ts.map trnD)]) fun x hx => by
    simp at hx
    rcases hx with rfl | rfl
    · exact s1
    · exact s2.up (by omega)).up (by simp)
  refine ⟨_, s3.repr rfl (plain_dp _ 60 ?_ ?_) (by omega)⟩
  · simp only [okD, okDs, o1.1]
    have := o2.1
    simp only [okD] at this
    rw [this]
    rfl
  · have := o1.2
    have := o2.2
    simp only [dp] at this
    simp only [dp, dps]
    omega
end Lawk13

namespace Lawk13
open PySem L2 Mn
theorem pal_nfm {cs : List Col} {ws : List Wsh} : nfm (palD cs ws) = true := by simp [palD]
theorem r0_ {n wf : Nat} {s : D} (hn : 4 ≤ n) (hs : St 0 s) : ∃ (s' : D) (cs : List Col) (ws : List Wsh), denS (callD fns wf n) wf ((.asg (.nm 1) [] (.call true 13 (.io 0 (.cons true (.cst (.int 4)) .nil)))) : Mn.S) [some (s), none, none, none, none, none, none, none, none, none, none] = .nx [some (s'), some (palD cs ws), none, none, none, none, none, none, none, none, none] ∧ St 1000 s' ∧ PalOk cs ws := by
  obtain ⟨cs, ws, s2, e2, st2, nf2, hp⟩ := palette_ (n := n) (wf := wf) (m := 4) (by omega) hs (by omega) (by omega) (by omega)
  refine ⟨s2, cs, ws, ?_, st2.up (by omega), hp⟩
  simp [e2, nf2, sizeLine, pal_nfm]
theorem r1_ {n wf : Nat} {s : D} {cs : List Col} {ws : List Wsh} (hn : 4 ≤ n) (hs : St 1000 s) (hp : PalOk cs ws) : ∃ (s' : D) (ts : List Trn), denS (callD fns wf n) wf ((.asg (.nm 2) [1] (.call true 16 (.io 0 (.cons true (.nm 1) (.cons true (.ix true (.lst (.cons true (.cst (.int 0)) (.cons true (.bin .add true (.cst (.int 1)) (.call true 11 (.io 0 (.cons true (.cst (.int 5)) .nil)))) (.cons true (.bin .add true (.cst (.int 1)) (.call true 11 (.io 0 (.cons true (.cst (.int 5)) .nil)))) (.cons true (.cst (.int 30)) .nil))))) (.call true 11 (.io 0 (.cons true (.cst (.int 4)) .nil)))) .nil))))) : Mn.S) [some (s), some (palD cs ws), none, none, none, none, none, none, none, none, none] = .nx [some (s'), some (palD cs ws), some (.lst true (ts.map trnD)), none, none, none, none, none, none, none, none] ∧ St 2000 s' ∧ ts.length ≤ 30 ∧ Good cs ws 1100000 ts := by
  obtain ⟨a1, s1, e1, st1, nf1, p1, q1⟩ := take (n := n) (wf := wf) (m := 5) (by omega) hs (by omega) (by omega) (by omega)
  obtain ⟨a2, s2, e2, st2, nf2, p2, q2⟩ := take (n := n) (wf := wf) (m := 5) (by omega) st1 (by omega) (by omega) (by omega)
  obtain ⟨a3, s3, e3, st3, nf3, p3, q3⟩ := take (n := n) (wf := wf) (m := 4) (by omega) st2 (by omega) (by omega) (by omega)
  obtain ⟨v, iv, r1, r2⟩ := pick_int (zs := [D.int 0, .int (1 + a1), .int (1 + a2), .int 30]) (lo := 0) (hi := 30) p3 (by simpa using q3) fun z hz => by
    simp at hz
    rcases hz with rfl | rfl | rfl | rfl <;> exact ⟨_, rfl, by omega, by omega⟩
  obtain ⟨ts, s4, e4, st4, nf4, hg, hl⟩ := turns_ (n := n) (wf := wf) (m := v) (by omega) st3 (by omega) hp (by omega) (by omega)
  refine ⟨s4, ts, ?_, st4.up (by omega), by omega, hg⟩
  have pf := pal_frz (cs := cs) (ws := ws)
  have fT := trns_frz (ts := ts)
  have nT := trns_nfm (ts := ts)
  generalize palD cs ws = pal at *
  generalize ts.map trnD = T at *
  simp [pf, e1, nf1, e2, nf2, e3, nf3, iv, e4, nf4, nT, sizeLine]
theorem ints_frz {es : List Int} : frzs (es.map D.int) = es.map D.int := frzs_mapf (fun _ => rfl) es
theorem ints_nfm {es : List Int} : nfms (es.map D.int) = true := nfms_mapf (fun _ => rfl) es
theorem segs_ok {gs : List Seg} (hs : ∀ g, g ∈ gs → PyData.strOk g.1.1 = true) (hl : gs.length ≤ 200) : okD (.lst false (gs.map segD)) = true ∧ frz (.lst false (gs.map segD)) = .lst false (gs.map segD) ∧ dp (.lst false (gs.map segD)) ≤ 2 ∧ szD (.lst false (gs.map segD)) ≤ 1000000 := by
  refine ⟨ok_all fun x hx => ?_, by simp, ?_, ?_⟩
  · obtain ⟨g, hg, rfl⟩ := List.mem_map.mp hx
    have := hs g hg
    have k : okD (numD g.1.2) = true := by cases g.1.2 <;> rfl
    simp [segD, okD, okDs, this, k]
  · have := dps_le (xs := gs.map segD) (k := 1) fun x hx => by
      obtain ⟨g, hg, rfl⟩ := List.mem_map.mp hx
      have k : dp (numD g.1.2) = 0 := by cases g.1.2 <;> rfl
      simp [segD, dp, dps, k]
    simp only [dp]
    omega
  · show szs (gs.map segD) ≤ 1000000
    have : ∀ gs : List Seg, szs (gs.map segD) = 5 * gs.length := fun gs => by
      induction gs with
      | nil => rfl
      | cons g gs ih =>
        have k : szD (numD g.1.2) = 0 := by cases g.1.2 <;> rfl
        rw [List.map_cons, szs, ih, List.length_cons]
        simp [segD, szD, szs, k]
        omega
    rw [this]
    omega
theorem ask_ {n wf : Nat} {s : D} {first last : Int} {cs : List Col} {ws : List Wsh} {ts : List Trn} {v3 v4 v5 : D} {v9 v10 : Option D} (hn : 6 ≤ n) (hp : PalOk cs ws) (hg : Good cs ws 1100000 ts) (hl : ts.length ≤ 30) (h0 : 0 ≤ first) (h1 : first ≤ last) (h2 : last ≤ 1000000) :
    ∃ v9' v10', forL (forB (callD fns wf n) wf ((.nm 9) : Mn.T) ((.cons (.asg (.nm 10) [1, 2, 6, 7] (.call true 9 (.cons true (.nm 1) (.cons true (.nm 2) (.cons true (.nm 6) (.cons true (.nm 7) .nil)))))) (.cons (.ite (.not (.call true 17 (.cons true (.nm 10) (.cons true (.nm 8) .nil)))) (.cons (.ret [] (.cst (.bl false))) .nil) .nil) (.cons (.ex (.mu .append (.sl 10) (.cons true (.tup (.cons true (.cst (.str "out")) (.cons true (.cst .non) (.cons true (.nm 6) (.cons true (.nm 7) .nil))))) .nil))) .nil))) : Mn.Ss)) (rngL 0 2) [some (s), some (palD cs ws), some (.lst true (ts.map trnD)), some (v3), some (v4), some (v5), some (.int first), some (.int last), some (.lst true ((strF cs ws ts first last).map segD)), v9, v10] = .nx [some (s), some (palD cs ws), some (.lst true (ts.map trnD)), some (v3), some (v4), some (v5), some (.int first), some (.int last), some (.lst true ((strF cs ws ts first last).map segD)), v9', v10'] := by
  have so := str_ok hp hg hl h0 h1 h2
  have e1 := stretches_ (n := n) (wf := wf) (first := first) (last := last) (by omega) hg.nmd hg.flw (by omega : ts.length ≤ 100)
  obtain ⟨o1, o2, o3, o4⟩ := segs_ok (fun g h => so.str h) so.len
  have e2 := same_ (wf := wf) 2 n _ (by omega) o1 o2 o3 o4
  have len := so.len
  generalize strF cs ws ts first last = S at *
  have fS := segs_frz (gs := S)
  have nS := segs_nfm (gs := S)
  have lS : (S.map segD).length < 16777216 := by rw [List.length_map]; omega
  have pf := pal_frz (cs := cs) (ws := ws)
  have fT := trns_frz (ts := ts)
  generalize palD cs ws = pal at *
  generalize ts.map trnD = T at *
  generalize S.map segD = SS at *
  obtain ⟨ρ', g, v9', v10', rfl⟩ := forL_run (fun _ ρ => ∃ v9 v10 : Option D, ρ = [some (s), some (pal), some (.lst true T), some (v3), some (v4), some (v5), some (.int first), some (.int last), some (.lst true SS), v9, v10]) (f := forB (callD fns wf n) wf ((.nm 9) : Mn.T) ((.cons (.asg (.nm 10) [1, 2, 6, 7] (.call true 9 (.cons true (.nm 1) (.cons true (.nm 2) (.cons true (.nm 6) (.cons true (.nm 7) .nil)))))) (.cons (.ite (.not (.call true 17 (.cons true (.nm 10) (.cons true (.nm 8) .nil)))) (.cons (.ret [] (.cst (.bl false))) .nil) .nil) (.cons (.ex (.mu .append (.sl 10) (.cons true (.tup (.cons true (.cst (.str "out")) (.cons true (.cst .non) (.cons true (.nm 6) (.cons true (.nm 7) .nil))))) .nil))) .nil))) : Mn.Ss)) (xs := rngL 0 2) (fun i y ρ hy ⟨v9, v10, e⟩ => by
    subst e
    obtain ⟨rfl, hi⟩ := rngL_get hy
    refine ⟨[some (s), some (pal), some (.lst true T), some (v3), some (v4), some (v5), some (.int first), some (.int last), some (.lst true SS), some (.int (i : Nat)), some (.lst true (SS ++ [.tup [.str "out", .non, .int first, .int last]]))], .inl ?_, _, _, rfl⟩
    rw [forB]
    simp [pf, fT, e1, e2, fS, nS, lS, sizeLine]) (ρ := [some (s), some (pal), some (.lst true T), some (v3), some (v4), some (v5), some (.int first), some (.int last), some (.lst true SS), v9, v10]) ⟨v9, v10, rfl⟩
  exact ⟨v9', v10', g⟩
theorem round_ {n wf b i : Nat} {s : D} {es : List Int} {cs : List Col} {ws : List Wsh} {ts : List Trn} {v3 : D} {v5 v6 v7 v8 v9 v10 : Option D} (hn : 7 ≤ n) (hs : St b s) (hb : b ≤ 500000) (hp : PalOk cs ws) (hg : Good cs ws 1100000 ts) (hl : ts.length ≤ 30) (eo : EdgeOk es) :
    ∃ s' v6' v7' v8' v9' v10', forB (callD fns wf n) wf ((.nm 5) : Mn.T) ((.cons (.asg (.nm 6) [4] (.ix true (.nm 4) (.call true 11 (.io 0 (.cons true (.bi .len (.cons true (.nm 4) .nil)) .nil))))) (.cons (.asg (.nm 7) [6] (.bi .min2 (.cons true (.bin .pow true (.cst (.int 10)) (.cst (.int 6))) (.cons true (.bin .add true (.nm 6) (.ix true (.lst (.cons true (.cst (.int 0)) (.cons true (.cst (.int 1)) (.cons true (.call true 11 (.io 0 (.cons true (.cst (.int 30)) .nil))) (.cons true (.call true 11 (.io 0 (.cons true (.cst (.int 200)) .nil))) .nil))))) (.call true 11 (.io 0 (.cons true (.cst (.int 4)) .nil))))) .nil)))) (.cons (.asg (.nm 8) [1, 2, 6, 7] (.call true 19 (.cons true (.nm 1) (.cons true (.nm 2) (.cons true (.nm 6) (.cons true (.nm 7) .nil)))))) (.cons (.for_ (.nm 9) [] true (.rng1 (.cst (.int 2))) (.cons (.asg (.nm 10) [1, 2, 6, 7] (.call true 9 (.cons true (.nm 1) (.cons true (.nm 2) (.cons true (.nm 6) (.cons true (.nm 7) .nil)))))) (.cons (.ite (.not (.call true 17 (.cons true (.nm 10) (.cons true (.nm 8) .nil)))) (.cons (.ret [] (.cst (.bl false))) .nil) .nil) (.cons (.ex (.mu .append (.sl 10) (.cons true (.tup (.cons true (.cst (.str "out")) (.cons true (.cst .non) (.cons true (.nm 6) (.cons true (.nm 7) .nil))))) .nil))) .nil)))) .nil)))) : Mn.Ss) (.int (i : Nat)) [some (s), some (palD cs ws), some (.lst true (ts.map trnD)), some (v3), some (.lst true (es.map .int)), v5, v6, v7, v8, v9, v10] = .nx [some (s'), some (palD cs ws), some (.lst true (ts.map trnD)), some (v3), some (.lst true (es.map .int)), some (.int (i : Nat)), v6', v7', v8', v9', v10'] ∧ St (b + 4) s' := by
  have ep : 0 < es.length := List.length_pos_of_mem eo.zero
  have el := eo.len
  obtain ⟨a1, s1, e1, st1, nf1, p1, q1⟩ := take (n := n) (wf := wf) (m := (es.length : Int)) (by omega) hs (by omega) (by omega) (by omega)
  obtain ⟨z, iz, mz⟩ := atI_mem (zs := es.map D.int) p1 (by simpa using q1)
  obtain ⟨f, hf, rfl⟩ := List.mem_map.mp mz
  have fr := eo.rng f hf
  obtain ⟨a2, s2, e2, st2, nf2, p2, q2⟩ := take (n := n) (wf := wf) (m := 30) (by omega) st1 (by omega) (by omega) (by omega)
  obtain ⟨a3, s3, e3, st3, nf3, p3, q3⟩ := take (n := n) (wf := wf) (m := 200) (by omega) st2 (by omega) (by omega) (by omega)
  obtain ⟨a4, s4, e4, st4, nf4, p4, q4⟩ := take (n := n) (wf := wf) (m := 4) (by omega) st3 (by omega) (by omega) (by omega)
  obtain ⟨v, iv, r1, r2⟩ := pick_int (zs := [D.int 0, .int 1, .int a2, .int a3]) (lo := 0) (hi := 200) p4 (by simpa using q4) fun z hz => by
    simp at hz
    rcases hz with rfl | rfl | rfl | rfl <;> exact ⟨_, rfl, by omega, by omega⟩
  obtain ⟨last, el, l1, l2⟩ : ∃ last : Int, (if f + v < 1000000 then f + v else 1000000) = last ∧ f ≤ last ∧ last ≤ 1000000 := ⟨_, rfl, by split <;> omega, by split <;> omega⟩
  have e5 := byh_ (n := n) (wf := wf) (by omega) hp hg hl fr.1 l1 l2
  obtain ⟨w9, w10, e6⟩ := ask_ (n := n) (wf := wf) (s := s4) (v3 := v3) (v4 := .lst true (es.map .int)) (v5 := .int (i : Nat)) (v9 := v9) (v10 := v10) (by omega) hp hg hl fr.1 l1 l2
  have nR := segs_nfm (gs := strF cs ws ts f last)
  refine ⟨s4, some (.int f), some (.int last), some (.lst true ((strF cs ws ts f last).map segD)), w9, w10, fstep (ρ1 := [some (s), some (palD cs ws), some (.lst true (ts.map trnD)), some (v3), some (.lst true (es.map .int)), some (.int (i : Nat)), v6, v7, v8, v9, v10]) (by simp) ?_, st4.up (by omega)⟩
  have pf := pal_frz (cs := cs) (ws := ws)
  have fT := trns_frz (ts := ts)
  have fE := ints_frz (es := es)
  have lE : biD .len [.lst false (es.map D.int)] = some (.int (es.length : Int)) := by show some (D.int ((es.map D.int).length : Nat)) = _; rw [List.length_map]
  generalize ((.cons (.asg (.nm 10) [1, 2, 6, 7] (.call true 9 (.cons true (.nm 1) (.cons true (.nm 2) (.cons true (.nm 6) (.cons true (.nm 7) .nil)))))) (.cons (.ite (.not (.call true 17 (.cons true (.nm 10) (.cons true (.nm 8) .nil)))) (.cons (.ret [] (.cst (.bl false))) .nil) .nil) (.cons (.ex (.mu .append (.sl 10) (.cons true (.tup (.cons true (.cst (.str "out")) (.cons true (.cst .non) (.cons true (.nm 6) (.cons true (.nm 7) .nil))))) .nil))) .nil))) : Mn.Ss) = B at e6 ⊢
  generalize (strF cs ws ts f last).map segD = R at *
  generalize palD cs ws = pal at *
  generalize ts.map trnD = T at *
  generalize hL : (es.length : Int) = L at *
  generalize es.map D.int = ES at *
  have b2 : big 2 = true := by decide
  simp [-f_lenL, pf, fT, fE, lE, e1, nf1, iz, e2, nf2, e3, nf3, e4, nf4, iv, el, e5, nR, b2, rngL_nfm, e6, sizeLine]
theorem r3_ {n wf : Nat} {s v3 : D} {es : List Int} {cs : List Col} {ws : List Wsh} {ts : List Trn} (hn : 7 ≤ n) (hs : St 2000 s) (hp : PalOk cs ws) (hg : Good cs ws 1100000 ts) (hl : ts.length ≤ 30) (eo : EdgeOk es) :
    ∃ s' v5 v6 v7 v8 v9 v10, denS (callD fns wf n) wf ((.for_ (.nm 5) [] true (.rng1 (.cst (.int 6))) (.cons (.asg (.nm 6) [4] (.ix true (.nm 4) (.call true 11 (.io 0 (.cons true (.bi .len (.cons true (.nm 4) .nil)) .nil))))) (.cons (.asg (.nm 7) [6] (.bi .min2 (.cons true (.bin .pow true (.cst (.int 10)) (.cst (.int 6))) (.cons true (.bin .add true (.nm 6) (.ix true (.lst (.cons true (.cst (.int 0)) (.cons true (.cst (.int 1)) (.cons true (.call true 11 (.io 0 (.cons true (.cst (.int 30)) .nil))) (.cons true (.call true 11 (.io 0 (.cons true (.cst (.int 200)) .nil))) .nil))))) (.call true 11 (.io 0 (.cons true (.cst (.int 4)) .nil))))) .nil)))) (.cons (.asg (.nm 8) [1, 2, 6, 7] (.call true 19 (.cons true (.nm 1) (.cons true (.nm 2) (.cons true (.nm 6) (.cons true (.nm 7) .nil)))))) (.cons (.for_ (.nm 9) [] true (.rng1 (.cst (.int 2))) (.cons (.asg (.nm 10) [1, 2, 6, 7] (.call true 9 (.cons true (.nm 1) (.cons true (.nm 2) (.cons true (.nm 6) (.cons true (.nm 7) .nil)))))) (.cons (.ite (.not (.call true 17 (.cons true (.nm 10) (.cons true (.nm 8) .nil)))) (.cons (.ret [] (.cst (.bl false))) .nil) .nil) (.cons (.ex (.mu .append (.sl 10) (.cons true (.tup (.cons true (.cst (.str "out")) (.cons true (.cst .non) (.cons true (.nm 6) (.cons true (.nm 7) .nil))))) .nil))) .nil)))) .nil))))) : Mn.S) [some (s), some (palD cs ws), some (.lst true (ts.map trnD)), some (v3), some (.lst true (es.map .int)), none, none, none, none, none, none] = .nx [some (s'), some (palD cs ws), some (.lst true (ts.map trnD)), some (v3), some (.lst true (es.map .int)), v5, v6, v7, v8, v9, v10] ∧ St 3000 s' := by
  obtain ⟨ρ', g, s', v5, v6, v7, v8, v9, v10, st, rfl⟩ := forL_run (fun i ρ => ∃ (s' : D) (v5 v6 v7 v8 v9 v10 : Option D), St (2000 + 4 * i) s' ∧ ρ = [some (s'), some (palD cs ws), some (.lst true (ts.map trnD)), some (v3), some (.lst true (es.map .int)), v5, v6, v7, v8, v9, v10]) (f := forB (callD fns wf n) wf ((.nm 5) : Mn.T) ((.cons (.asg (.nm 6) [4] (.ix true (.nm 4) (.call true 11 (.io 0 (.cons true (.bi .len (.cons true (.nm 4) .nil)) .nil))))) (.cons (.asg (.nm 7) [6] (.bi .min2 (.cons true (.bin .pow true (.cst (.int 10)) (.cst (.int 6))) (.cons true (.bin .add true (.nm 6) (.ix true (.lst (.cons true (.cst (.int 0)) (.cons true (.cst (.int 1)) (.cons true (.call true 11 (.io 0 (.cons true (.cst (.int 30)) .nil))) (.cons true (.call true 11 (.io 0 (.cons true (.cst (.int 200)) .nil))) .nil))))) (.call true 11 (.io 0 (.cons true (.cst (.int 4)) .nil))))) .nil)))) (.cons (.asg (.nm 8) [1, 2, 6, 7] (.call true 19 (.cons true (.nm 1) (.cons true (.nm 2) (.cons true (.nm 6) (.cons true (.nm 7) .nil)))))) (.cons (.for_ (.nm 9) [] true (.rng1 (.cst (.int 2))) (.cons (.asg (.nm 10) [1, 2, 6, 7] (.call true 9 (.cons true (.nm 1) (.cons true (.nm 2) (.cons true (.nm 6) (.cons true (.nm 7) .nil)))))) (.cons (.ite (.not (.call true 17 (.cons true (.nm 10) (.cons true (.nm 8) .nil)))) (.cons (.ret [] (.cst (.bl false))) .nil) .nil) (.cons (.ex (.mu .append (.sl 10) (.cons true (.tup (.cons true (.cst (.str "out")) (.cons true (.cst .non) (.cons true (.nm 6) (.cons true (.nm 7) .nil))))) .nil))) .nil)))) .nil)))) : Mn.Ss)) (xs := rngL 0 6) (fun i y ρ hy ⟨s1, v5, v6, v7, v8, v9, v10, st, e⟩ => by
    subst e
    obtain ⟨rfl, hi⟩ := rngL_get hy
    obtain ⟨s2, w6, w7, w8, w9, w10, e1, st2⟩ := round_ (n := n) (wf := wf) (i := i) (v3 := v3) (v5 := v5) (v6 := v6) (v7 := v7) (v8 := v8) (v9 := v9) (v10 := v10) hn st (by omega) hp hg hl eo
    exact ⟨_, .inl e1, s2, _, _, _, _, _, _, st2.up (by omega), rfl⟩) (ρ := [some (s), some (palD cs ws), some (.lst true (ts.map trnD)), some (v3), some (.lst true (es.map .int)), none, none, none, none, none, none]) ⟨s, none, none, none, none, none, none, hs, rfl⟩
  rw [rngL_len] at st
  refine ⟨s', v5, v6, v7, v8, v9, v10, ?_, st.up (by omega)⟩
  have b6 : big 6 = true := by decide
  generalize ((.cons (.asg (.nm 6) [4] (.ix true (.nm 4) (.call true 11 (.io 0 (.cons true (.bi .len (.cons true (.nm 4) .nil)) .nil))))) (.cons (.asg (.nm 7) [6] (.bi .min2 (.cons true (.bin .pow true (.cst (.int 10)) (.cst (.int 6))) (.cons true (.bin .add true (.nm 6) (.ix true (.lst (.cons true (.cst (.int 0)) (.cons true (.cst (.int 1)) (.cons true (.call true 11 (.io 0 (.cons true (.cst (.int 30)) .nil))) (.cons true (.call true 11 (.io 0 (.cons true (.cst (.int 200)) .nil))) .nil))))) (.call true 11 (.io 0 (.cons true (.cst (.int 4)) .nil))))) .nil)))) (.cons (.asg (.nm 8) [1, 2, 6, 7] (.call true 19 (.cons true (.nm 1) (.cons true (.nm 2) (.cons true (.nm 6) (.cons true (.nm 7) .nil)))))) (.cons (.for_ (.nm 9) [] true (.rng1 (.cst (.int 2))) (.cons (.asg (.nm 10) [1, 2, 6, 7] (.call true 9 (.cons true (.nm 1) (.cons true (.nm 2) (.cons true (.nm 6) (.cons true (.nm 7) .nil)))))) (.cons (.ite (.not (.call true 17 (.cons true (.nm 10) (.cons true (.nm 8) .nil)))) (.cons (.ret [] (.cst (.bl false))) .nil) .nil) (.cons (.ex (.mu .append (.sl 10) (.cons true (.tup (.cons true (.cst (.str "out")) (.cons true (.cst .non) (.cons true (.nm 6) (.cons true (.nm 7) .nil))))) .nil))) .nil)))) .nil)))) : Mn.Ss) = B at g ⊢
  generalize palD cs ws = pal at *
  generalize ts.map trnD = T at *
  generalize es.map D.int = ES at *
  simp [b6, rngL_nfm, g]
theorem r4_ {n wf : Nat} {s v3 : D} {es : List Int} {cs : List Col} {ws : List Wsh} {ts : List Trn} {v5 v6 v7 v8 v9 v10 : Option D} (hn : 7 ≤ n) (hp : PalOk cs ws) (hg : Good cs ws 1100000 ts) (hl : ts.length ≤ 30) (eo : EdgeOk es) :
    ∃ v6' v7', denS (callD fns wf n) wf ((.for_ (.tup (.cons (.nm 6) (.cons (.nm 7) .nil))) [4] true (.seq (.tup (.cons true (.tup (.cons true (.cst (.int 0)) (.cons true (.bin .pow true (.cst (.int 10)) (.cst (.int 6))) .nil))) (.cons true (.tup (.cons true (.ix true (.nm 4) (.cst (.int 0))) (.cons true (.ix true (.nm 4) (.neg (.cst (.int 1)))) .nil))) (.cons true (.tup (.cons true (.ix true (.nm 4) (.bin .fdiv true (.bi .len (.cons true (.nm 4) .nil)) (.cst (.int 2)))) (.cons true (.bin .pow true (.cst (.int 10)) (.cst (.int 6))) .nil))) .nil))))) (.cons (.ite (.not (.call true 20 (.cons true (.nm 1) (.cons true (.nm 2) (.cons true (.nm 6) (.cons true (.nm 7) .nil)))))) (.cons (.ret [] (.cst (.bl false))) .nil) .nil) .nil)) : Mn.S) [some (s), some (palD cs ws), some (.lst true (ts.map trnD)), some (v3), some (.lst true (es.map .int)), v5, v6, v7, v8, v9, v10] = .nx [some (s), some (palD cs ws), some (.lst true (ts.map trnD)), some (v3), some (.lst true (es.map .int)), v5, v6', v7', v8, v9, v10] := by
  have ep : 0 < es.length := List.length_pos_of_mem eo.zero
  have elen := eo.len
  obtain ⟨a, ha⟩ : ∃ a, es[0]? = some a := ⟨_, List.getElem?_eq_getElem ep⟩
  obtain ⟨m, hm⟩ : ∃ m, es[es.length / 2]? = some m := ⟨_, List.getElem?_eq_getElem (by omega)⟩
  obtain ⟨z, hz⟩ : ∃ z, es[es.length - 1]? = some z := ⟨_, List.getElem?_eq_getElem (by omega)⟩
  have ra := eo.rng a (List.mem_of_getElem? ha)
  have rm := eo.rng m (List.mem_of_getElem? hm)
  have rz := eo.rng z (List.mem_of_getElem? hz)
  have az : a ≤ z := by
    obtain ⟨i1, e1⟩ := List.getElem?_eq_some_iff.mp ha
    obtain ⟨i2, e2⟩ := List.getElem?_eq_some_iff.mp hz
    by_cases c : es.length - 1 = 0
    · rw [← e1, ← e2]
      have : es[0] = es[es.length - 1] := by congr 1; omega
      omega
    · have := List.pairwise_iff_getElem.mp eo.inc 0 (es.length - 1) i1 i2 (by omega)
      omega
  have i0 : atI (es.map D.int) 0 = some (.int a) := Mn.atI_nat (i := 0) (by rw [List.getElem?_map, ha]; rfl)
  have iz : atI (es.map D.int) (-1) = some (.int z) := by
    have : ixN (es.map D.int).length (-1) = some (es.length - 1) := by
      rw [List.length_map, show es.length = (es.length - 1) + 1 by omega, ixN_last]
      simp
    unfold L2.atI
    rw [this]
    show (es.map D.int)[es.length - 1]? = _
    rw [List.getElem?_map, hz]
    rfl
  have im : atI (es.map D.int) ((es.length : Int) / 2) = some (.int m) := by
    rw [show ((es.length : Int) / 2) = ((es.length / 2 : Nat) : Int) by omega]
    exact Mn.atI_nat (by rw [List.getElem?_map, hm]; rfl)
  have w1 := whole_ (n := n) (wf := wf) (first := 0) (last := 1000000) hn hp hg hl (by omega) (by omega) (by omega)
  have w2 := whole_ (n := n) (wf := wf) (first := a) (last := z) hn hp hg hl ra.1 az rz.2
  have w3 := whole_ (n := n) (wf := wf) (first := m) (last := 1000000) hn hp hg hl rm.1 rm.2 (by omega)
  have pf := pal_frz (cs := cs) (ws := ws)
  have fT := trns_frz (ts := ts)
  have fE := ints_frz (es := es)
  have lE : biD .len [.lst false (es.map D.int)] = some (.int (es.length : Int)) := by show some (D.int ((es.map D.int).length : Nat)) = _; rw [List.length_map]
  have l2 : Nat.log2 2 < 9000 := by decide
  refine ⟨some (.int m), some (.int 1000000), ?_⟩
  generalize palD cs ws = pal at *
  generalize ts.map trnD = T at *
  generalize hL : (es.length : Int) = L at *
  generalize es.map D.int = ES at *
  simp [-f_lenL, pf, fT, fE, lE, i0, iz, im, l2, forL, forB, w1, w2, w3, sizeLine]
theorem right_ {n wf : Nat} {s : D} (hn : 9 ≤ n) (hs : St 0 s) : callD fns wf n 23 [s] = some (.bl true, []) := by
  obtain ⟨k, rfl⟩ : ∃ k, n = k + 1 := ⟨n - 1, by omega⟩
  obtain ⟨s0, cs, ws, e0, st0, hp⟩ := r0_ (n := k) (wf := wf) (by omega) hs
  obtain ⟨s1, ts, e1, st1, hl, hg⟩ := r1_ (n := k) (wf := wf) (by omega) st0 hp
  obtain ⟨x, hx⟩ := repr_ hp hl (hg.tsB hp.cok)
  obtain ⟨es, ee, eo⟩ := edges_ (n := k) (wf := wf) (ts := ts) (by omega) hp hg.nmd hg.flw hl
  have pf := pal_frz (cs := cs) (ws := ws)
  have fT := trns_frz (ts := ts)
  have nE := ints_nfm (es := es)
  have e2 : denS (callD fns wf k) wf ((.par [3, 4] [1, 2] (.cons true (.bi .repr (.cons true (.lst (.cons true (.nm 1) (.cons true (.nm 2) .nil))) .nil)) (.cons true (.call true 18 (.cons true (.nm 1) (.cons true (.nm 2) .nil))) .nil))) : Mn.S) [some (s1), some (palD cs ws), some (.lst true (ts.map trnD)), none, none, none, none, none, none, none, none] = .nx [some (s1), some (palD cs ws), some (.lst true (ts.map trnD)), some (.str x), some (.lst true (es.map .int)), none, none, none, none, none, none] := by
    generalize palD cs ws = pal at *
    generalize ts.map trnD = T at *
    generalize es.map D.int = ES at *
    simp [pf, fT, hx, ee, nE, sizeLine, frzs]
  obtain ⟨s3, v5, v6, v7, v8, v9, v10, e3, st3⟩ := r3_ (n := k) (wf := wf) (v3 := .str x) (by omega) st1 hp hg hl eo
  obtain ⟨v6', v7', e4⟩ := r4_ (n := k) (wf := wf) (s := s3) (v3 := .str x) (v5 := v5) (v6 := v6) (v7 := v7) (v8 := v8) (v9 := v9) (v10 := v10) (by omega) hp hg hl eo
  rw [callD_at (f := f_law_right_v23) rfl rfl]
  show runF f_law_right_v23 (denSs _ _ b_law_right [some (s), none, none, none, none, none, none, none, none, none, none]) = _
  rw [show b_law_right = ((.cons (.asg (.nm 1) [] (.call true 13 (.io 0 (.cons true (.cst (.int 4)) .nil)))) (.cons (.asg (.nm 2) [1] (.call true 16 (.io 0 (.cons true (.nm 1) (.cons true (.ix true (.lst (.cons true (.cst (.int 0)) (.cons true (.bin .add true (.cst (.int 1)) (.call true 11 (.io 0 (.cons true (.cst (.int 5)) .nil)))) (.cons true (.bin .add true (.cst (.int 1)) (.call true 11 (.io 0 (.cons true (.cst (.int 5)) .nil)))) (.cons true (.cst (.int 30)) .nil))))) (.call true 11 (.io 0 (.cons true (.cst (.int 4)) .nil)))) .nil))))) (.cons (.par [3, 4] [1, 2] (.cons true (.bi .repr (.cons true (.lst (.cons true (.nm 1) (.cons true (.nm 2) .nil))) .nil)) (.cons true (.call true 18 (.cons true (.nm 1) (.cons true (.nm 2) .nil))) .nil))) (.cons (.for_ (.nm 5) [] true (.rng1 (.cst (.int 6))) (.cons (.asg (.nm 6) [4] (.ix true (.nm 4) (.call true 11 (.io 0 (.cons true (.bi .len (.cons true (.nm 4) .nil)) .nil))))) (.cons (.asg (.nm 7) [6] (.bi .min2 (.cons true (.bin .pow true (.cst (.int 10)) (.cst (.int 6))) (.cons true (.bin .add true (.nm 6) (.ix true (.lst (.cons true (.cst (.int 0)) (.cons true (.cst (.int 1)) (.cons true (.call true 11 (.io 0 (.cons true (.cst (.int 30)) .nil))) (.cons true (.call true 11 (.io 0 (.cons true (.cst (.int 200)) .nil))) .nil))))) (.call true 11 (.io 0 (.cons true (.cst (.int 4)) .nil))))) .nil)))) (.cons (.asg (.nm 8) [1, 2, 6, 7] (.call true 19 (.cons true (.nm 1) (.cons true (.nm 2) (.cons true (.nm 6) (.cons true (.nm 7) .nil)))))) (.cons (.for_ (.nm 9) [] true (.rng1 (.cst (.int 2))) (.cons (.asg (.nm 10) [1, 2, 6, 7] (.call true 9 (.cons true (.nm 1) (.cons true (.nm 2) (.cons true (.nm 6) (.cons true (.nm 7) .nil)))))) (.cons (.ite (.not (.call true 17 (.cons true (.nm 10) (.cons true (.nm 8) .nil)))) (.cons (.ret [] (.cst (.bl false))) .nil) .nil) (.cons (.ex (.mu .append (.sl 10) (.cons true (.tup (.cons true (.cst (.str "out")) (.cons true (.cst .non) (.cons true (.nm 6) (.cons true (.nm 7) .nil))))) .nil))) .nil)))) .nil))))) (.cons (.for_ (.tup (.cons (.nm 6) (.cons (.nm 7) .nil))) [4] true (.seq (.tup (.cons true (.tup (.cons true (.cst (.int 0)) (.cons true (.bin .pow true (.cst (.int 10)) (.cst (.int 6))) .nil))) (.cons true (.tup (.cons true (.ix true (.nm 4) (.cst (.int 0))) (.cons true (.ix true (.nm 4) (.neg (.cst (.int 1)))) .nil))) (.cons true (.tup (.cons true (.ix true (.nm 4) (.bin .fdiv true (.bi .len (.cons true (.nm 4) .nil)) (.cst (.int 2)))) (.cons true (.bin .pow true (.cst (.int 10)) (.cst (.int 6))) .nil))) .nil))))) (.cons (.ite (.not (.call true 20 (.cons true (.nm 1) (.cons true (.nm 2) (.cons true (.nm 6) (.cons true (.nm 7) .nil)))))) (.cons (.ret [] (.cst (.bl false))) .nil) .nil) .nil)) (.cons (.ret [1, 2, 3] (.cmp .eq true (.bi .repr (.cons true (.lst (.cons true (.nm 1) (.cons true (.nm 2) .nil))) .nil)) (.nm 3))) .nil)))))) : Mn.Ss) from rfl, step_ e0, step_ e1, step_ e2, step_ e3, step_ e4]
  generalize palD cs ws = pal at *
  generalize ts.map trnD = T at *
  simp [pf, fT, hx, k_eq, sizeLine, frzs, f_law_right_v23]
end Lawk13

namespace Lawk13
open PySem L2 Mn
theorem lc_go {cf : Nat → List D → Option (D × List D)} {own vs : List Nat} {q q2 : Bool} {t : T} {it : I} {ifs : E1} {elt : E} {ρ ρ1 ρ2 : Mn.Env} {xs ys : List D} (hI : denI cf it ρ = .ok xs ρ1) (hq : (vs.all (nodS ρ1) || (q && nfms xs)) = true) (hl : lcL own q2 (lcB cf t ifs elt) xs ρ1 = .ok ys ρ2) (hy : ys.length ≤ sizeLine) :
    den cf (.lc own q q2 t vs it ifs elt) ρ = .ok (.lst true ys) (restS ρ1 own ρ2) := by
  rw [x_lc, hI, bind_go, hq, grd_go, hl, bind_go, decide_eq_true hy, grd_go]
theorem all_true {n : Nat} : biD .all [.lst false (List.replicate n (.bl true))] = some (.bl true) := by
  show (bls? (List.replicate n (D.bl true))).map (fun bs => D.bl (bs.all id)) = _
  have : ∀ n, bls? (List.replicate n (D.bl true)) = some (List.replicate n true) := fun n => by
    induction n with
    | zero => rfl
    | succ n ih => rw [List.replicate_succ, bls?, ih]; rfl
  rw [this]
  simp
theorem plain0 {n wf : Nat} {ns : List Int} (hn : 30 ≤ n) (hl : ns.length ≤ 63) : callD fns wf (n + 1) 22 [.scr (ns.map .int)] = some (.bl true, []) := by
  rw [callD_at (f := f_law) rfl rfl]
  show runF f_law (denSs _ _ b_law [some (.scr (ns.map .int)), none]) = _
  obtain ⟨L, eL⟩ : ∃ L : Int, L = ns.length := ⟨_, rfl⟩
  have bl : biD .len [.scr (ns.map .int)] = some (.int L) := by
    show some (D.int ((ns.map D.int).length : Nat)) = _
    rw [List.length_map, eL]
  have fz : frz (.scr (ns.map .int)) = .scr (ns.map .int) := by
    have : frzs (ns.map D.int) = ns.map D.int := frzs_mapf (fun _ => rfl) _
    simp [this]
  have nd : nod (.scr (ns.map .int)) = true := by
    have : nods (ns.map D.int) = true := fz_nods (frzs_mapf (fun _ => rfl) _)
    simp [nod, this]
  have bx := fun i (hi : i < 100) => box_ (k := n) (wf := wf) (ns := ns) (i := i) (by omega) hi hl
  generalize D.scr (ns.map .int) = scr at *
  obtain ⟨m, em, hm⟩ : ∃ m : Nat, (1 + if L < 3 then L else 3) = (m : Int) ∧ m ≤ 4 := ⟨(1 + if L < 3 then L else 3).toNat, by split <;> omega, by split <;> omega⟩
  obtain ⟨zs, ρ', g1, ⟨w1, rfl⟩, zl, hz⟩ := lcL_each (own := [1]) (q := false) (body := lcB (callD fns wf n) (.nm 1) .no (.call true 23 (.cons true (.call true 10 (.cons true (.nm 0) (.cons true (.nm 1) .nil))) .nil))) (xs := rngL 0 m) (fun _ : Unit => D.bl true) (fun _ => True) (fun _ => .inr rfl)
    (fun i ρ => ∃ w, ρ = [some scr, w]) (fun i x ρ hx ⟨w, e⟩ => by
      obtain ⟨rfl, hi⟩ := rngL_get hx
      subst e
      obtain ⟨s, e1, st⟩ := bx i (by omega)
      have e2 := right_ (n := n) (wf := wf) (by omega) st
      have fs : frz s = s ∨ True := .inr trivial
      refine ⟨[some scr, some (.int (i : Nat))], ⟨_, rfl⟩, (), ?_, trivial⟩
      simp [lcB, wipeS, fz, e1, e2]) (ρ := [some scr, none]) ⟨none, rfl⟩
  rw [rngL_len] at zl
  have ez : zs.map (fun _ : Unit => D.bl true) = List.replicate m (.bl true) := by
    rw [← zl]
    clear g1 zl hz
    induction zs with
    | nil => rfl
    | cons z zs ih => rw [List.map_cons, ih]; rfl
  rw [ez] at g1
  have at1 := all_true (n := m)
  have fr : frzs (List.replicate m (D.bl true)) = List.replicate m (.bl true) := flat_frzs fun x hx => by rw [List.eq_of_mem_replicate hx]; rfl
  have rl : (List.replicate m (D.bl true)).length ≤ 16777216 := by rw [List.length_replicate]; omega
  generalize List.replicate m (D.bl true) = R at *
  obtain ⟨j, ej, jm⟩ : ∃ j : Int, (1 + if L < 3 then L else 3) = j ∧ j.toNat = m := ⟨_, em, rfl⟩
  rw [← jm] at g1
  have bm : big j = true := decide_eq_true ⟨by omega, by omega⟩
  clear em
  have hI : denI (callD fns wf n) (.rng1 (.bin .add true (.cst (.int 1)) (.bi .min2 (.cons true (.cst (.int 3)) (.cons true (.bi .len (.cons true (.nm 0) .nil)) .nil))))) [some scr, none] = .ok (rngL 0 j.toNat) [some scr, none] := by
    simp [-f_lenL, fz, bl, ej, bm]
  have hL := lc_go (q := true) (vs := [0]) hI (by simp [nodS, nd]) g1 (show R.length ≤ sizeLine from rl)
  unfold b_law
  simp [hL, fr, at1, restS, keptS, f_law]
theorem plain : ∀ ns : List Int, ns.length ≤ 63 → callD fns 5 40 22 [.scr (ns.map .int)] = some (.bl true, []) := fun ns hl => plain0 (by omega) hl
end Lawk13
-- i := 22
-- f := f_law

open PySem PySem.W PyProof.Rows
set_option maxHeartbeats 0 in
theorem PySem.Challenge.cw_potround_k13_stretches_of_hours_holds : PySem.Challenge.rw_potround_k13_stretches_of_hours.Holds := by
  w_on; o_law; k_head; (case hw => w_witness2)
  k_fill
  refine Mn.walk_law (l := PySem.Challenge.rw_potround_k13_stretches_of_hours) (fns := Lawk13.fns) (wf := 5) (k := 40) (i := 22) (f := Lawk13.f_law)
    rfl rfl ⟨rfl, by decide, by decide⟩ (fun w h Y => PySem.W.kIn_of Y) rfl rfl Lawk13.plain ?F
  case F =>
    intro w mg fa h KX G hmg
    refine' Lawk13.all_mk KX G hmg ?a0 ?l0 ?c0 ?k0 ?a1 ?l1 ?c1 ?k1 ?a2 ?l2 ?c2 ?k2 ?d2 ?e2 ?v2 ?a3 ?l3 ?c3 ?k3 ?a4 ?l4 ?c4 ?k4 ?a5 ?l5 ?c5 ?k5 ?a6 ?l6 ?c6 ?k6 ?a7 ?l7 ?c7 ?k7 ?a8 ?l8 ?c8 ?k8 ?a9 ?l9 ?c9 ?k9 ?a10 ?l10 ?c10 ?k10 ?a11 ?l11 ?c11 ?k11 ?a12 ?l12 ?c12 ?k12 ?a13 ?l13 ?c13 ?k13 ?a14 ?l14 ?c14 ?k14 ?a15 ?l15 ?c15 ?k15 ?a16 ?l16 ?c16 ?k16 ?a17 ?l17 ?c17 ?k17 ?a18 ?l18 ?c18 ?k18 ?a19 ?l19 ?c19 ?k19 ?a20 ?l20 ?c20 ?k20 ?a21 ?l21 ?c21 ?k21 ?a22 ?l22 ?c22 ?k22 ?z0 ?z1 ?z2 ?z3 ?z4 ?z5 ?z6 ?z7 ?z8 ?z9 ?z10 ?z11 ?z12 ?z13 ?z14 ?z15 ?z16 ?gx0 ?qx0
    (case a0 => k_is)
    (case l0 => k_is)
    (case c0 => k_is)
    (case k0 => k_is)
    (case a1 => k_is)
    (case l1 => k_is)
    (case c1 => k_is)
    (case k1 => k_is)
    (case a2 => k_is)
    (case l2 => k_is)
    (case c2 => k_is)
    (case k2 => k_is)
    (case d2 => k_is)
    (case e2 => first | exact rfl | k_is)
    (case v2 => repeat (first | exact .nil | refine .cons ⟨_, rfl⟩ ?_ | refine .cons rfl ?_))
    (case a3 => k_is)
    (case l3 => k_is)
    (case c3 => k_is)
    (case k3 => k_is)
    (case a4 => k_is)
    (case l4 => k_is)
    (case c4 => k_is)
    (case k4 => k_is)
    (case a5 => k_is)
    (case l5 => k_is)
    (case c5 => k_is)
    (case k5 => k_is)
    (case a6 => k_is)
    (case l6 => k_is)
    (case c6 => k_is)
    (case k6 => k_is)
    (case a7 => k_is)
    (case l7 => k_is)
    (case c7 => k_is)
    (case k7 => k_is)
    (case a8 => k_is)
    (case l8 => k_is)
    (case c8 => k_is)
    (case k8 => k_is)
    (case a9 => k_is)
    (case l9 => k_is)
    (case c9 => k_is)
    (case k9 => k_is)
    (case a10 => k_is)
    (case l10 => k_is)
    (case c10 => k_is)
    (case k10 => k_is)
    (case a11 => k_is)
    (case l11 => k_is)
    (case c11 => k_is)
    (case k11 => k_is)
    (case a12 => k_is)
    (case l12 => k_is)
    (case c12 => k_is)
    (case k12 => k_is)
    (case a13 => k_is)
    (case l13 => k_is)
    (case c13 => k_is)
    (case k13 => k_is)
    (case a14 => k_is)
    (case l14 => k_is)
    (case c14 => k_is)
    (case k14 => k_is)
    (case a15 => k_is)
    (case l15 => k_is)
    (case c15 => k_is)
    (case k15 => k_is)
    (case a16 => k_is)
    (case l16 => k_is)
    (case c16 => k_is)
    (case k16 => k_is)
    (case a17 => k_is)
    (case l17 => k_is)
    (case c17 => k_is)
    (case k17 => k_is)
    (case a18 => k_is)
    (case l18 => k_is)
    (case c18 => k_is)
    (case k18 => k_is)
    (case a19 => k_is)
    (case l19 => k_is)
    (case c19 => k_is)
    (case k19 => k_is)
    (case a20 => k_is)
    (case l20 => k_is)
    (case c20 => k_is)
    (case k20 => k_is)
    (case a21 => k_is)
    (case l21 => k_is)
    (case c21 => k_is)
    (case k21 => k_is)
    (case a22 => k_is)
    (case l22 => k_is)
    (case c22 => k_is)
    (case k22 => k_is)
    (case z0 => k_is)
    (case z1 => k_is)
    (case z2 => k_is)
    (case z3 => k_is)
    (case z4 => k_is)
    (case z5 => k_is)
    (case z6 => k_is)
    (case z7 => k_is)
    (case z8 => k_is)
    (case z9 => k_is)
    (case z10 => k_is)
    (case z11 => k_is)
    (case z12 => k_is)
    (case z13 => k_is)
    (case z14 => k_is)
    (case z15 => k_is)
    (case z16 => k_is)
    (case gx0 => k_is)
    (case qx0 => first | exact ⟨_, rfl⟩ | k_is)
