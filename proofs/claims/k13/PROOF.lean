import PyProof.Rows.All
import Wide.All
import OpenK.AllK
import Wide.FinOn
import HandS.ForMost
import HandS.ForExc
import HandS.TryMany
import HandS.IsInst
import HandS.Zip
import HandS.Deep
import HandS.Walk
import HandS.Wide
import HandS.TupAny
import HandS.Conv
import KE.GoesMore
import PySem.Challenge.RW_turnedtalk_k13_whole_knowing_spread
set_option Elab.async false
set_option linter.all false
set_option maxRecDepth 100000
set_option maxHeartbeats 4000000
namespace FL
open PySem PySem.Spec PyProof.Rows L2

/-! ## data -/
inductive D where
  | non | bl (b : Bool) | int (i : Int) | str (s : Str)
  | tup (xs : List D) | lst (xs : List D)
  | ins (c : Nat) (ns : List Str) (xs : List D)
  | scr (ns : List Int)
  | ty (n : String) | cls (c : Nat) | raw (n : Nat)
structure Gm where
  K : PySem.W.Frag
  cls : Nat → Addr
  xcl : Nat → Addr
  raw : Nat → V
mutual
def Rep (g : Gm) (F : Hp) : D → V → Prop
  | .non, v => v = .non
  | .bl b, v => v = .bl b
  | .int i, v => v = .int i
  | .str s, v => v = .str s
  | .tup ds, v => ∃ a xs, v = .ref a ∧ SqT g.K F a xs ∧ RepL g F ds xs
  | .lst ds, v => ∃ a xs, v = .ref a ∧ F a = some (.lst xs) ∧ RepL g F ds xs
  | .scr ns, v => ∃ a, v = .ref a ∧ SqL g.K F a (ns.map V.int)
  | .ty n, v => v = .ty n
  | .cls c, v => v = .ref (g.cls c)
  | .ins c ns ds, v => ∃ a dx xs, v = .ref a ∧ F a = some (.ins (g.cls c) dx (ns.zip xs)) ∧ ns.length = xs.length ∧ RepL g F ds xs
  | .raw n, v => v = g.raw n
def RepL (g : Gm) (F : Hp) : List D → List V → Prop
  | [], vs => vs = []
  | d :: ds, vs => ∃ x xs, vs = x :: xs ∧ Rep g F d x ∧ RepL g F ds xs
end
theorem same_t {K : PySem.W.Frag} {H H' : Hp} {a : Addr} {xs : List V} (e : Same H H') (h : SqT K H a xs) : SqT K H' a xs := by
  rcases h with (h | ⟨o, h⟩) | h
  · exact .inl (.inl (e _ _ h))
  · exact .inl (.inr ⟨o, e _ _ h⟩)
  · exact .inr h
mutual
theorem Rep.mono {g : Gm} {F F' : Hp} (s : Same F F') : ∀ {d : D} {v : V}, Rep g F d v → Rep g F' d v
  | .non, _, h => h
  | .bl _, _, h => h
  | .int _, _, h => h
  | .str _, _, h => h
  | .tup _, _, h => by
    obtain ⟨a, xs, e, q, r⟩ := h
    exact ⟨a, xs, e, same_t s q, RepL.mono s r⟩
  | .lst _, _, h => by
    obtain ⟨a, xs, e, q, r⟩ := h
    exact ⟨a, xs, e, s _ _ q, RepL.mono s r⟩
  | .scr _, _, h => by
    obtain ⟨a, e, q⟩ := h
    exact ⟨a, e, s.seq q⟩
  | .ty _, _, h => h
  | .cls _, _, h => h
  | .ins _ _ _, _, h => by
    obtain ⟨a, dx, xs, e, q, l, r⟩ := h
    exact ⟨a, dx, xs, e, s _ _ q, l, RepL.mono s r⟩
  | .raw _, _, h => h
theorem RepL.mono {g : Gm} {F F' : Hp} (s : Same F F') : ∀ {ds : List D} {vs : List V}, RepL g F ds vs → RepL g F' ds vs
  | [], _, h => h
  | d :: ds, _, h => by
    obtain ⟨x, xs, e, r, t⟩ := h
    exact ⟨x, xs, e, Rep.mono s r, RepL.mono s t⟩
end
section
variable {g : Gm} {F : Hp}
theorem RepL.length : ∀ {ds : List D} {vs : List V}, RepL g F ds vs → ds.length = vs.length
  | [], _, h => by cases (show _ = [] from h); rfl
  | d :: ds, _, h => by
    obtain ⟨x, xs, rfl, _, t⟩ := h
    simp [RepL.length t]
theorem RepL.nil : RepL g F [] [] := rfl
theorem RepL.cons {d : D} {ds : List D} {v : V} {vs : List V} (h : Rep g F d v) (t : RepL g F ds vs) : RepL g F (d :: ds) (v :: vs) := ⟨v, vs, rfl, h, t⟩
theorem RepL.get : ∀ {ds : List D} {vs : List V} {i : Nat} {d : D}, RepL g F ds vs → ds[i]? = some d → ∃ v, vs[i]? = some v ∧ Rep g F d v
  | [], _, _, _, _, e => by simp at e
  | d :: ds, _, 0, _, h, e => by
    obtain ⟨x, xs, rfl, r, _⟩ := h
    simp at e; subst e
    exact ⟨x, rfl, r⟩
  | d :: ds, _, i + 1, _, h, e => by
    obtain ⟨x, xs, rfl, _, t⟩ := h
    obtain ⟨v, a, b⟩ := RepL.get (i := i) t (by simpa using e)
    exact ⟨v, by simpa using a, b⟩
theorem RepL.append : ∀ {ds es : List D} {vs ws : List V}, RepL g F ds vs → RepL g F es ws → RepL g F (ds ++ es) (vs ++ ws)
  | [], _, _, _, h, k => by cases (show _ = [] from h); exact k
  | d :: ds, _, _, _, h, k => by
    obtain ⟨x, xs, rfl, r, t⟩ := h
    exact ⟨x, _, rfl, r, RepL.append t k⟩
theorem RepL.set : ∀ {ds : List D} {vs : List V} {i : Nat} {d : D} {v : V}, RepL g F ds vs → Rep g F d v → RepL g F (ds.set i d) (vs.set i v)
  | [], _, _, _, _, h, _ => by cases (show _ = [] from h); exact rfl
  | _ :: ds, _, 0, _, _, h, k => by
    obtain ⟨x, xs, rfl, r, t⟩ := h
    exact ⟨_, xs, rfl, k, t⟩
  | _ :: ds, _, i + 1, _, _, h, k => by
    obtain ⟨x, xs, rfl, r, t⟩ := h
    exact ⟨x, _, rfl, r, RepL.set t k⟩
theorem RepL.take : ∀ {ds : List D} {vs : List V} (n : Nat), RepL g F ds vs → RepL g F (ds.take n) (vs.take n)
  | _, _, 0, _ => rfl
  | [], _, n + 1, h => by cases (show _ = [] from h); exact rfl
  | _ :: ds, _, n + 1, h => by
    obtain ⟨x, xs, rfl, r, t⟩ := h
    exact ⟨x, _, rfl, r, RepL.take n t⟩
theorem RepL.drop : ∀ {ds : List D} {vs : List V} (n : Nat), RepL g F ds vs → RepL g F (ds.drop n) (vs.drop n)
  | _, _, 0, h => h
  | [], _, n + 1, h => by cases (show _ = [] from h); exact rfl
  | _ :: ds, _, n + 1, h => by
    obtain ⟨x, xs, rfl, r, t⟩ := h
    exact RepL.drop n t
theorem RepL.rep {ds : List D} {vs : List V} (h : RepL g F ds vs) : ∀ k : Nat, RepL g F (List.replicate k ds).flatten (List.replicate k vs).flatten
  | 0 => rfl
  | k + 1 => by
    rw [List.replicate_succ, List.replicate_succ, List.flatten_cons, List.flatten_cons]
    exact h.append (RepL.rep h k)
theorem RepL.dropLast : ∀ {ds : List D} {vs : List V}, RepL g F ds vs → RepL g F ds.dropLast vs.dropLast := fun {ds vs} h => by
  rw [List.dropLast_eq_take, List.dropLast_eq_take, h.length]
  exact h.take _
theorem RepL.reverse : ∀ {ds : List D} {vs : List V}, RepL g F ds vs → RepL g F ds.reverse vs.reverse
  | [], _, h => by cases (show _ = [] from h); exact rfl
  | d :: ds, _, h => by
    obtain ⟨x, xs, rfl, r, t⟩ := h
    rw [List.reverse_cons, List.reverse_cons]
    exact (RepL.reverse t).append ⟨_, _, rfl, r, rfl⟩
theorem RepL.ints : ∀ ns : List Int, RepL g F (ns.map D.int) (ns.map V.int)
  | [] => rfl
  | n :: ns => ⟨_, _, rfl, rfl, RepL.ints ns⟩
end

/-! ## slots -/
inductive Sl where
  | no | fz (d : D) | own (d : D) | bor (k : Nat) (d : D)
def Sl.cell : Sl → Option D
  | .own d => some d
  | .bor _ d => some d
  | _ => none
def Sl.put : Sl → D → Sl
  | .own _, d => .own d
  | .bor k _, d => .bor k d
  | s, _ => s
def Sl.cont : Sl → Option D
  | .fz d => some d
  | .own d => some d
  | .bor _ d => some d
  | .no => none
abbrev Nv := List Sl
/-- what stands in an owned cell -/
def OwnO (g : Gm) (F : Hp) : D → HO → Prop
  | .lst ds, o => ∃ xs, o = .lst xs ∧ RepL g F ds xs
  | .ins c ns ds, o => ∃ dx xs, o = .ins (g.cls c) dx (ns.zip xs) ∧ ns.length = xs.length ∧ RepL g F ds xs
  | _, _ => False
def OwnAt (g : Gm) (G F H : Hp) (p : Addr) (d : D) : Prop := F p = none ∧ G p = none ∧ ∃ o, H p = some o ∧ OwnO g F d o
theorem OwnO.mono {g : Gm} {F F' : Hp} (s : Same F F') {d : D} {o : HO} (h : OwnO g F d o) : OwnO g F' d o := by
  cases d with
  | lst ds => obtain ⟨xs, e, r⟩ := h; exact ⟨xs, e, r.mono s⟩
  | ins c ns ds => obtain ⟨dx, xs, e, l, r⟩ := h; exact ⟨dx, xs, e, l, r.mono s⟩
  | _ => exact h.elim
theorem OwnO.rep {g : Gm} {F : Hp} {d : D} {o : HO} {p : Addr} (h : OwnO g F d o) (q : F p = none) : Rep g (upd F p o) d (.ref p) := by
  have s : Same F (upd F p o) := fun b u e => by rw [upd_ne (ne_of_none e q)]; exact e
  cases d with
  | lst ds => obtain ⟨xs, rfl, r⟩ := h; exact ⟨p, xs, rfl, upd_same, r.mono s⟩
  | ins c ns ds => obtain ⟨dx, xs, rfl, l, r⟩ := h; exact ⟨p, dx, xs, rfl, upd_same, l, r.mono s⟩
  | _ => exact h.elim
theorem Same.new {H : Hp} {p : Addr} {o : HO} (h : H p = none) : Same H (upd H p o) := fun b u e => by rw [upd_ne (ne_of_none e h)]; exact e

/-- what a slot's new content asks -/
def SlNew (g : Gm) (ρ : Nat → Addr) (G F H : Hp) (p0 : Addr) : Sl → Option (Option V) → Prop
  | .no, _ => True
  | .fz d, x => ∃ v, x = some (some v) ∧ Rep g F d v
  | .own d, x => x = some (some (.ref p0)) ∧ OwnAt g G F H p0 d
  | .bor k d, x => ρ k = p0 ∧ x = some (some (.ref p0)) ∧ OwnAt g G F H p0 d
structure StOk (g : Gm) (ρ : Nat → Addr) (G : Hp) (E : Nv) (F : Hp) (σ : L2.St) (H : Hp) : Prop where
  sf : Same F H
  sg : Same G H
  dj : ∀ q o, G q = some o → F q = none
  len : E.length = σ.length
  fz : ∀ (i : Nat) d, E[i]? = some (.fz d) → ∃ v, σ[i]? = some (some v) ∧ Rep g F d v
  ow : ∃ ps : Nat → Addr, (∀ (i : Nat) s d, E[i]? = some s → s.cell = some d → σ[i]? = some (some (.ref (ps i))) ∧ OwnAt g G F H (ps i) d) ∧
    (∀ (i k : Nat) d, E[i]? = some (.bor k d) → ps i = ρ k) ∧
    (∀ (i j : Nat) s t d e, E[i]? = some s → s.cell = some d → E[j]? = some t → t.cell = some e → ps i = ps j → i = j)
section
variable {g : Gm} {ρ : Nat → Addr} {G G' F F' H H' : Hp} {E : Nv} {σ σ' : L2.St} {i : Nat} {p : Addr} {o : HO} {d : D} {s : Sl}
/-- all is kept but where slot i is -/
theorem StOk.slot (old : StOk g ρ G E F σ H) (hF : Same F F') (sf : Same F' H') (sg : Same G' H') (dj : ∀ q o, G' q = some o → F' q = none) (hl : σ'.length = σ.length) (hσ : ∀ j, j ≠ i → σ'[j]? = σ[j]?) (p0 : Addr)
    (keep : ∀ (j : Nat) t d p, j ≠ i → E[j]? = some t → t.cell = some d → σ[j]? = some (some (.ref p)) → OwnAt g G F H p d →
      (∀ t' d' p', E[i]? = some t' → t'.cell = some d' → σ[i]? = some (some (.ref p')) → p ≠ p') → OwnAt g G' F' H' p d ∧ (s.cell ≠ none → p ≠ p0))
    (new : i < E.length → SlNew g ρ G' F' H' p0 s σ'[i]?) : StOk g ρ G' (E.set i s) F' σ' H' := by
  obtain ⟨ps, h1, h2, h3⟩ := old.ow
  have dist : ∀ (j : Nat) t d, j ≠ i → E[j]? = some t → t.cell = some d → ∀ t' d' p', E[i]? = some t' → t'.cell = some d' → σ[i]? = some (some (.ref p')) → ps j ≠ p' := by
    intro j t d hj e1 e2 t' d' p' e3 e4 e5 q
    obtain ⟨e6, _⟩ := h1 i t' d' e3 e4
    rw [e5] at e6
    have e7 : p' = ps i := by injection (Option.some.inj (Option.some.inj e6))
    exact hj (h3 j i t t' d d' e1 e2 e3 e4 (q.trans e7))
  have kp : ∀ (j : Nat) t d, j ≠ i → E[j]? = some t → t.cell = some d → OwnAt g G' F' H' (ps j) d ∧ (s.cell ≠ none → ps j ≠ p0) := fun j t d hj e1 e2 =>
    keep j t d (ps j) hj e1 e2 (h1 j t d e1 e2).1 (h1 j t d e1 e2).2 (dist j t d hj e1 e2)
  have lt : ∀ {j : Nat} {t : Sl}, (E.set i s)[j]? = some t → j < E.length := fun {j t} e => by
    have := (List.getElem?_eq_some_iff.mp e).1
    simpa using this
  have at_i : ∀ {t : Sl}, (E.set i s)[i]? = some t → t = s := fun {t} e => by
    have hi := lt e
    rw [List.getElem?_set_self hi] at e
    exact (Option.some.inj e).symm
  refine ⟨sf, sg, dj, by rw [List.length_set, hl]; exact old.len, fun j d e => ?_, fun j => if j = i then p0 else ps j, fun j t d e c => ?_, fun j k d e => ?_, fun j k t u d e e1 c1 e2 c2 q => ?_⟩
  · by_cases hj : j = i
    · subst hj
      have hi := lt e
      have hs := at_i e
      have n := new hi
      subst hs
      exact n
    · rw [List.getElem?_set_ne (Ne.symm hj)] at e
      obtain ⟨v, a, b⟩ := old.fz j d e
      exact ⟨v, by rw [hσ j hj]; exact a, b.mono hF⟩
  · by_cases hj : j = i
    · subst hj
      have n := new (lt e)
      have hs := at_i e
      subst hs
      simp only [if_true]
      cases t with
      | no => cases c
      | fz _ => cases c
      | own x => cases c; exact n
      | bor k x => cases c; exact n.2
    · rw [List.getElem?_set_ne (Ne.symm hj)] at e
      simp only [if_neg hj]
      exact ⟨by rw [hσ j hj]; exact (h1 j t d e c).1, (kp j t d hj e c).1⟩
  · by_cases hj : j = i
    · subst hj
      have n := new (lt e)
      have hs := at_i e
      subst hs
      simp only [if_true]
      exact n.1.symm
    · rw [List.getElem?_set_ne (Ne.symm hj)] at e
      simp only [if_neg hj]
      exact h2 j k d e
  · by_cases hj : j = i <;> by_cases hk : k = i
    · rw [hj, hk]
    · rw [List.getElem?_set_ne (Ne.symm hk)] at e2
      subst hj
      have hs := at_i e1
      subst hs
      simp only [if_true, if_neg hk] at q
      exact absurd q.symm ((kp k u e hk e2 c2).2 (by rw [c1]; simp))
    · rw [List.getElem?_set_ne (Ne.symm hj)] at e1
      subst hk
      have hs := at_i e2
      subst hs
      simp only [if_true, if_neg hj] at q
      exact absurd q ((kp j t d hj e1 c1).2 (by rw [c2]; simp))
    · rw [List.getElem?_set_ne (Ne.symm hj)] at e1
      rw [List.getElem?_set_ne (Ne.symm hk)] at e2
      simp only [if_neg hj, if_neg hk] at q
      exact h3 j k t u d e e1 c1 e2 c2 q
/-- nothing of the slots changes -/
theorem StOk.same (old : StOk g ρ G E F σ H) (hF : Same F F') (sf : Same F' H') (sg : Same G' H') (dj : ∀ q o, G' q = some o → F' q = none)
    (keep : ∀ p d, OwnAt g G F H p d → OwnAt g G' F' H' p d) : StOk g ρ G' E F' σ H' := by
  obtain ⟨ps, h1, h2, h3⟩ := old.ow
  exact ⟨sf, sg, dj, old.len, fun i d e => let ⟨v, a, b⟩ := old.fz i d e; ⟨v, a, b.mono hF⟩, ps, fun i s d e c => ⟨(h1 i s d e c).1, keep _ _ (h1 i s d e c).2⟩, h2, h3⟩
theorem StOk.fF (st : StOk g ρ G E F σ H) (h : H p = none) : F p = none := st.sf.free h
theorem StOk.fG (st : StOk g ρ G E F σ H) (h : H p = none) : G p = none := st.sg.free h
/-- a new frozen object -/
theorem StOk.grow (st : StOk g ρ G E F σ H) (h : H p = none) (o : HO) : StOk g ρ G E (upd F p o) σ (upd H p o) := by
  have f := st.fF h
  have gn := st.fG h
  refine st.same (Same.new f) (fun b u e => ?_) (fun b u e => ?_) (fun q u e => ?_) fun q d ⟨a, b, u, c, e⟩ => ?_
  · by_cases hb : b = p
    · subst hb; rw [upd_same] at e ⊢; exact e
    · rw [upd_ne hb] at e ⊢; exact st.sf _ _ e
  · rw [upd_ne (ne_of_none e gn)]; exact st.sg _ _ e
  · rw [upd_ne (ne_of_none e gn)]; exact st.dj _ _ e
  · have n : q ≠ p := ne_of_none c h
    exact ⟨by rw [upd_ne n]; exact a, b, u, by rw [upd_ne n]; exact c, e.mono (Same.new f)⟩
/-- a new object of nobody -/
theorem StOk.temp (st : StOk g ρ G E F σ H) (h : H p = none) (o : HO) : StOk g ρ (upd G p o) E F σ (upd H p o) := by
  have f := st.fF h
  have gn := st.fG h
  refine st.same (Same.refl F) (fun b u e => ?_) (fun b u e => ?_) (fun q u e => ?_) fun q d ⟨a, b, u, c, e⟩ => ?_
  · rw [upd_ne (ne_of_none e f)]; exact st.sf _ _ e
  · by_cases hb : b = p
    · subst hb; rw [upd_same] at e ⊢; exact e
    · rw [upd_ne hb] at e ⊢; exact st.sg _ _ e
  · by_cases hb : q = p
    · subst hb; exact f
    · rw [upd_ne hb] at e; exact st.dj _ _ e
  · have n : q ≠ p := ne_of_none c h
    exact ⟨a, by rw [upd_ne n]; exact b, u, by rw [upd_ne n]; exact c, e⟩
/-- nobody's object is frozen -/
theorem StOk.freeze (st : StOk g ρ (upd G p o) E F σ H) (gn : G p = none) : StOk g ρ G E (upd F p o) σ H := by
  have f : F p = none := st.dj p o upd_same
  have hp : H p = some o := st.sg p o upd_same
  refine st.same (Same.new f) (fun b u e => ?_) (fun b u e => ?_) (fun q u e => ?_) fun q d ⟨a, b, u, c, e⟩ => ?_
  · by_cases hb : b = p
    · subst hb; rw [upd_same] at e; rw [← e]; exact hp
    · rw [upd_ne hb] at e; exact st.sf _ _ e
  · exact st.sg _ _ (by rw [upd_ne (ne_of_none e gn)]; exact e)
  · rw [upd_ne (ne_of_none e gn)]; exact st.dj q u (by rw [upd_ne (ne_of_none e gn)]; exact e)
  · have n : q ≠ p := fun z => by rw [z, upd_same] at b; cases b
    exact ⟨by rw [upd_ne n]; exact a, by rw [upd_ne n] at b; exact b, u, c, e.mono (Same.new f)⟩
/-- nobody's object, forgotten -/
theorem StOk.untemp (st : StOk g ρ (upd G p o) E F σ H) (gn : G p = none) : StOk g ρ G E F σ H := by
  refine st.same (Same.refl F) st.sf (fun b u e => st.sg _ _ (by rw [upd_ne (ne_of_none e gn)]; exact e)) (fun q u e => st.dj q u (by rw [upd_ne (ne_of_none e gn)]; exact e)) fun q d ⟨a, b, u, c, e⟩ => ?_
  have n : q ≠ p := fun z => by rw [z, upd_same] at b; cases b
  exact ⟨a, by rw [upd_ne n] at b; exact b, u, c, e⟩
/-- nobody's object is written -/
theorem StOk.rewrite {o' : HO} (st : StOk g ρ (upd G p o) E F σ H) (gn : G p = none) : StOk g ρ (upd G p o') E F σ (upd H p o') := by
  have f : F p = none := st.dj p o upd_same
  refine st.same (Same.refl F) (fun b u e => ?_) (fun b u e => ?_) (fun q u e => ?_) fun q d ⟨a, b, u, c, e⟩ => ?_
  · rw [upd_ne (ne_of_none e f)]; exact st.sf _ _ e
  · by_cases hb : b = p
    · subst hb; rw [upd_same] at e ⊢; exact e
    · rw [upd_ne hb] at e ⊢; exact st.sg _ _ (by rw [upd_ne hb]; exact e)
  · by_cases hb : q = p
    · subst hb; exact f
    · rw [upd_ne hb] at e; exact st.dj q u (by rw [upd_ne hb]; exact e)
  · have n : q ≠ p := fun z => by rw [z, upd_same] at b; cases b
    exact ⟨a, by rw [upd_ne n] at b ⊢; exact b, u, by rw [upd_ne n]; exact c, e⟩
/-- nobody's object comes to a slot -/
theorem StOk.take (st : StOk g ρ (upd G p o) E F σ H) (gn : G p = none) (ow : OwnO g F d o) : StOk g ρ G (E.set i (.own d)) F (σ.set i (some (.ref p))) H := by
  have f : F p = none := st.dj p o upd_same
  have hp : H p = some o := st.sg p o upd_same
  refine st.slot (Same.refl F) st.sf (fun b u e => st.sg _ _ (by rw [upd_ne (ne_of_none e gn)]; exact e)) (fun q u e => st.dj q u (by rw [upd_ne (ne_of_none e gn)]; exact e)) (by simp) (fun j hj => List.getElem?_set_ne (Ne.symm hj)) p (fun j t d q hj e1 e2 e3 ⟨a, b, u, c, e⟩ _ => ?_) fun hi => ⟨?_, f, gn, o, hp, ow⟩
  · have n : q ≠ p := fun z => by rw [z, upd_same] at b; cases b
    exact ⟨⟨a, by rw [upd_ne n] at b; exact b, u, c, e⟩, fun _ => n⟩
  · exact List.getElem?_set_self (by rw [← st.len]; exact hi)
/-- a frozen thing comes to a slot -/
theorem StOk.store {v : V} (st : StOk g ρ G E F σ H) (r : Rep g F d v) : StOk g ρ G (E.set i (.fz d)) F (σ.set i (some v)) H := by
  refine st.slot (Same.refl F) st.sf st.sg st.dj (by simp) (fun j hj => List.getElem?_set_ne (Ne.symm hj)) 0 (fun j t d q hj e1 e2 e3 ow _ => ⟨ow, fun z => absurd rfl z⟩) fun hi => ⟨v, ?_, r⟩
  exact List.getElem?_set_self (by rw [← st.len]; exact hi)
/-- a slot forgotten -/
theorem StOk.drop (st : StOk g ρ G E F σ H) (i : Nat) : StOk g ρ G (E.set i .no) F σ H :=
  st.slot (Same.refl F) st.sf st.sg st.dj rfl (fun _ _ => rfl) 0 (fun j t d q hj e1 e2 e3 ow _ => ⟨ow, fun z => absurd rfl z⟩) fun _ => trivial
/-- where a cell is -/
theorem StOk.at (st : StOk g ρ G E F σ H) (e : E[i]? = some s) (c : s.cell = some d) : ∃ p, σ[i]? = some (some (.ref p)) ∧ OwnAt g G F H p d := by
  obtain ⟨ps, h1, h2, h3⟩ := st.ow
  exact ⟨ps i, h1 i s d e c⟩
/-- an owned slot is given up, its object nobody's -/
theorem StOk.give (st : StOk g ρ G E F σ H) (e : E[i]? = some s) (c : s.cell = some d) (hσ : σ[i]? = some (some (.ref p))) (hp : H p = some o) : StOk g ρ (upd G p o) (E.set i .no) F σ H ∧ G p = none ∧ OwnO g F d o := by
  obtain ⟨p', e1, f, gn, u, hu, ow⟩ := st.at e c
  rw [hσ] at e1
  have : p = p' := by injection (Option.some.inj (Option.some.inj e1))
  subst this
  rw [hp] at hu; cases hu
  refine ⟨st.slot (Same.refl F) st.sf (fun b u e => ?_) (fun q u e => ?_) rfl (fun _ _ => rfl) 0 (fun j t d q hj e1 e2 e3 ow' ne => ⟨?_, fun z => absurd rfl z⟩) fun _ => trivial, gn, ow⟩
  · by_cases hb : b = p
    · subst hb; rw [upd_same] at e; rw [← e]; exact hp
    · rw [upd_ne hb] at e; exact st.sg _ _ e
  · by_cases hb : q = p
    · subst hb; exact f
    · rw [upd_ne hb] at e; exact st.dj _ _ e
  · have n : q ≠ p := ne _ _ p e c hσ
    obtain ⟨a, b, r⟩ := ow'
    exact ⟨a, by rw [upd_ne n]; exact b, r⟩
/-- an owned slot frozen -/
theorem StOk.demote (st : StOk g ρ G E F σ H) (e : E[i]? = some (.own d)) : ∃ v F', σ[i]? = some (some v) ∧ Same F F' ∧ Rep g F' d v ∧ StOk g ρ G (E.set i (.fz d)) F' σ H := by
  obtain ⟨p, e1, f, gn, o, hp, ow⟩ := st.at e rfl
  obtain ⟨st1, _, _⟩ := st.give e rfl e1 hp
  have st2 := st1.freeze gn
  have r : Rep g (upd F p o) d (.ref p) := ow.rep f
  refine ⟨.ref p, upd F p o, e1, Same.new f, r, ?_⟩
  have st3 := st2.store (i := i) r
  have hi : i < σ.length := (List.getElem?_eq_some_iff.mp e1).1
  have e2 : σ.set i (some (.ref p)) = σ := by
    apply List.ext_getElem?
    intro j
    by_cases hj : i = j
    · subst hj; rw [List.getElem?_set_self hi, e1]
    · rw [List.getElem?_set_ne hj]
  rw [e2, List.set_set] at st3
  exact st3
/-- an owned cell is written -/
theorem StOk.write {o' : HO} {d' : D} (st : StOk g ρ G E F σ H) (e : E[i]? = some s) (c : s.cell = some d) (hσ : σ[i]? = some (some (.ref p))) (ow' : OwnO g F d' o') : StOk g ρ G (E.set i (s.put d')) F σ (upd H p o') := by
  obtain ⟨p', e1, f, gn, o, hp, ow⟩ := st.at e c
  rw [hσ] at e1
  have : p = p' := by injection (Option.some.inj (Option.some.inj e1))
  subst this
  have bor : ∀ k x, s = .bor k x → ρ k = p := by
    intro k x z
    obtain ⟨ps, h1, h2, h3⟩ := st.ow
    have q := (h1 i s d e c).1
    rw [hσ] at q
    have q2 : p = ps i := by injection (Option.some.inj (Option.some.inj q))
    rw [q2, h2 i k x (by rw [← z]; exact e)]
  refine st.slot (Same.refl F) (fun b u e => ?_) (fun b u e => ?_) st.dj rfl (fun _ _ => rfl) p (fun j t d q hj e1 e2 e3 ow' ne => ?_) fun hi => ?_
  · rw [upd_ne (ne_of_none e f)]; exact st.sf _ _ e
  · rw [upd_ne (ne_of_none e gn)]; exact st.sg _ _ e
  · have n : q ≠ p := ne _ _ p e c hσ
    obtain ⟨a, b, u, x, r⟩ := ow'
    exact ⟨⟨a, b, u, by rw [upd_ne n]; exact x, r⟩, fun _ => n⟩
  · cases s with
    | no => cases c
    | fz _ => cases c
    | own x => exact ⟨hσ, f, gn, o', upd_same, ow'⟩
    | bor k x => exact ⟨bor k x rfl, hσ, f, gn, o', upd_same, ow'⟩
/-- other slots: kept, forgotten, or frozen things -/
theorem StOk.reslot {E' : Nv} (st : StOk g ρ G E F σ H) (hl : E'.length = σ'.length)
    (h : ∀ (i : Nat) s, E'[i]? = some s → (E[i]? = some s ∧ σ'[i]? = σ[i]?) ∨ s = .no ∨ ∃ d v, s = .fz d ∧ σ'[i]? = some (some v) ∧ Rep g F d v) : StOk g ρ G E' F σ' H := by
  obtain ⟨ps, h1, h2, h3⟩ := st.ow
  have cellE : ∀ {i : Nat} {s : Sl} {d : D}, E'[i]? = some s → s.cell = some d → E[i]? = some s ∧ σ'[i]? = σ[i]? := fun {i s d} e c => by
    rcases h i s e with z | z | ⟨x, v, z, _⟩
    · exact z
    · rw [z] at c; cases c
    · rw [z] at c; cases c
  refine ⟨st.sf, st.sg, st.dj, hl, fun i d e => ?_, ps, fun i s d e c => ?_, fun i k d e => h2 i k d (cellE (d := d) e rfl).1, fun i j s t d e e1 c1 e2 c2 q => h3 i j s t d e (cellE e1 c1).1 c1 (cellE e2 c2).1 c2 q⟩
  · rcases h i _ e with ⟨z, y⟩ | z | ⟨x, v, z, y, r⟩
    · obtain ⟨v, a, b⟩ := st.fz i d z
      exact ⟨v, by rw [y]; exact a, b⟩
    · cases z
    · cases z; exact ⟨v, y, r⟩
  · obtain ⟨a, b⟩ := cellE e c
    rw [b]
    exact h1 i s d a c
/-- a slot set to what it is -/
theorem StOk.len_lt (st : StOk g ρ G E F σ H) (e : E[i]? = some s) : i < σ.length := by
  rw [← st.len]; exact (List.getElem?_eq_some_iff.mp e).1
end
end FL

namespace FL
open PySem PySem.Spec PyProof.Rows L2

/-! ## outcomes -/
inductive R (α : Type) where
  | val (a : α) (E : Nv) | exc (c : Nat) (fs : Option (Str × D)) (E : Nv) | bad
def R.bind {α β : Type} : R α → (α → Nv → R β) → R β
  | .val a E, k => k a E
  | .exc c f E, _ => .exc c f E
  | .bad, _ => .bad
theorem R.bind_val {α β : Type} {a : α} {E : Nv} {k : α → Nv → R β} : (R.val a E).bind k = k a E := rfl
theorem R.bind_exc {α β : Type} {c : Nat} {f : Option (Str × D)} {E : Nv} {k : α → Nv → R β} : (R.exc c f E).bind k = R.exc c f E := rfl
theorem R.bind_bad {α β : Type} {k : α → Nv → R β} : (R.bad : R α).bind k = R.bad := rfl
/-- some or bad -/
def R.some {α : Type} : Option α → Nv → R α
  | .some a, E => .val a E
  | .none, _ => .bad
/-- how a statement ends -/
inductive Fl where
  | nx | rt (d : D) | rn (d : D) | bk | ct
/-- an operand: a value, or a slot that is only looked at (or lent) -/
inductive Ar where
  | v (d : D) | pk (i : Nat)
def Ar.get (E : Nv) : Ar → Option D
  | .v d => some d
  | .pk i => match E[i]? with
    | some s => s.cont
    | none => none
def XRep (g : Gm) (F : Hp) : Option (Str × D) → Option Addr → Prop
  | none, d => d = none
  | some (n, x), d => ∃ a v, d = some a ∧ F a = some (.xd [(n, v)]) ∧ Rep g F x v
theorem XRep.mono {g : Gm} {F F' : Hp} (s : Same F F') : ∀ {f : Option (Str × D)} {d : Option Addr}, XRep g F f d → XRep g F' f d
  | none, _, h => h
  | some (n, x), _, ⟨a, v, e, q, r⟩ => ⟨a, v, e, s _ _ q, r.mono s⟩
def ArOk (g : Gm) (F : Hp) (σ : L2.St) : Ar → V → Prop
  | .v d, x => Rep g F d x
  | .pk i, x => σ[i]? = some (some x)
theorem ArOk.mono {g : Gm} {F F' : Hp} {σ : L2.St} (s : Same F F') : ∀ {a : Ar} {x : V}, ArOk g F σ a x → ArOk g F' σ a x
  | .v _, _, h => Rep.mono s h
  | .pk _, _, h => h
def ArsOk (g : Gm) (F : Hp) (σ : L2.St) : List Ar → List V → Prop
  | [], vs => vs = []
  | a :: as, vs => ∃ x xs, vs = x :: xs ∧ ArOk g F σ a x ∧ ArsOk g F σ as xs
theorem ArsOk.mono {g : Gm} {F F' : Hp} {σ : L2.St} (s : Same F F') : ∀ {as : List Ar} {xs : List V}, ArsOk g F σ as xs → ArsOk g F' σ as xs
  | [], _, h => h
  | a :: as, _, ⟨x, xs, e, r, t⟩ => ⟨x, xs, e, r.mono s, ArsOk.mono s t⟩
theorem ArsOk.length {g : Gm} {F : Hp} {σ : L2.St} : ∀ {as : List Ar} {xs : List V}, ArsOk g F σ as xs → as.length = xs.length
  | [], _, h => by cases (show _ = [] from h); rfl
  | a :: as, _, ⟨x, xs, e, r, t⟩ => by subst e; simp [ArsOk.length t]

section
variable {g : Gm} {F : Hp} {σ : L2.St}
/-- operands given as values -/
def valsOf : List Ar → Option (List D)
  | [] => some []
  | .v d :: r => match valsOf r with
    | some ds => some (d :: ds)
    | none => none
  | .pk _ :: _ => none
theorem valsOf_ok : ∀ {as : List Ar} {ds : List D} {vs : List V}, ArsOk g F σ as vs → valsOf as = some ds → RepL g F ds vs
  | [], _, _, h, e => by cases (show _ = [] from h); cases e; exact rfl
  | .v d :: r, ds, _, ⟨x, xs, rfl, q, t⟩, e => by
    unfold valsOf at e
    cases z : valsOf r with
    | none => simp [z] at e
    | some ds' =>
      simp only [z, Option.some.injEq] at e
      subst e
      exact ⟨x, xs, rfl, q, valsOf_ok t z⟩
  | .pk _ :: _, _, _, _, e => nomatch e
end
/-! ## readings -/
section
variable (g : Gm) (W : WX)
def postX (ρ : Nat → Addr) (G F : Hp) (σ : L2.St) (c : Nat) (fs : Option (Str × D)) (E' : Nv) : Prop :=
  ∀ dx F' H', StOk g ρ G E' F' σ H' → Same F F' → XRep g F' fs dx → W (.ref (g.xcl c)) dx σ H'
def post {α β : Type} (rel : Hp → L2.St → α → β → Prop) (ρ : Nat → Addr) (G F : Hp) (σ : L2.St) (Q : β → Hp → Prop) : R α → Prop
  | .val a E' => ∀ b F' H', StOk g ρ G E' F' σ H' → Same F F' → rel F' σ a b → Q b H'
  | .exc c fs E' => postX g W ρ G F σ c fs E'
  | .bad => False
def tG {α β : Type} (rel : Hp → L2.St → α → β → Prop) (f : Nv → R α) : L2.St → Hp → (β → Hp → Prop) → Prop := fun σ H Q =>
  ∃ ρ G E F, StOk g ρ G E F σ H ∧ post g W rel ρ G F σ Q (f E)
def postS (ρ : Nat → Addr) (G F : Hp) (D : Ends) : R Fl → Prop
  | .val .nx E' => ∀ σ' F' H', StOk g ρ G E' F' σ' H' → Same F F' → D.nx σ' H'
  | .val .bk E' => ∀ σ' F' H', StOk g ρ G E' F' σ' H' → Same F F' → D.bk σ' H'
  | .val .ct E' => ∀ σ' F' H', StOk g ρ G E' F' σ' H' → Same F F' → D.ct σ' H'
  | .val (.rt d) E' => ∀ v σ' F' H', StOk g ρ G E' F' σ' H' → Same F F' → Rep g F' d v → D.rt v H'
  | .val (.rn d) E' => ∀ p o σ' F' H', StOk g ρ (upd G p o) E' F' σ' H' → G p = none → OwnO g F' d o → Same F F' → D.rt (.ref p) H'
  | .exc c fs E' => ∀ dx σ' F' H', StOk g ρ G E' F' σ' H' → Same F F' → XRep g F' fs dx → W (.ref (g.xcl c)) dx σ' H'
  | .bad => False
def tS (s : Nv → R Fl) : TS := fun D σ H => ∃ ρ G E F, StOk g ρ G E F σ H ∧ postS g W ρ G F D (s E)
/-- a new owned object -/
def postN (ρ : Nat → Addr) (G F : Hp) (σ : L2.St) (Q : VK) : R D → Prop
  | .val d E' => ∀ p o F' H', StOk g ρ (upd G p o) E' F' σ H' → G p = none → OwnO g F' d o → Same F F' → Q (.ref p) H'
  | .exc c fs E' => postX g W ρ G F σ c fs E'
  | .bad => False
def tN (f : Nv → R D) : TE := fun σ H Q => ∃ ρ G E F, StOk g ρ G E F σ H ∧ postN g W ρ G F σ Q (f E)
abbrev relD : Hp → L2.St → D → V → Prop := fun F _ d v => Rep g F d v
abbrev relB : Hp → L2.St → Bool → Bool → Prop := fun _ _ b c => b = c
abbrev relA : Hp → L2.St → Ar → V → Prop := fun F σ a v => ArOk g F σ a v
abbrev relAs : Hp → L2.St → List Ar → List V → Prop := fun F σ a v => ArsOk g F σ a v
end
/-- an expression; a test; an operand; operands; a new object; a statement -/
abbrev FE (X : Cx) (g : Gm) (W : WX) (e : Expr) (f : Nv → R D) : Prop := PE X e (tG g W (relD g) f)
abbrev FT (X : Cx) (g : Gm) (W : WX) (e : Expr) (f : Nv → R Bool) : Prop := PT X e (tG g W relB f)
abbrev FO (X : Cx) (g : Gm) (W : WX) (e : Expr) (f : Nv → R Ar) : Prop := PE X e (tG g W (relA g) f)
abbrev FA (X : Cx) (g : Gm) (W : WX) (es : List Expr) (f : Nv → R (List Ar)) : Prop := PA X es (tG g W (relAs g) f)
abbrev FN (X : Cx) (g : Gm) (W : WX) (e : Expr) (f : Nv → R D) : Prop := PE X e (tN g W f)
abbrev FS (X : Cx) (g : Gm) (W : WX) (st : Stmt) (s : Nv → R Fl) : Prop := PS X st (tS g W s)
abbrev FSs (X : Cx) (g : Gm) (W : WX) (st : List Stmt) (s : Nv → R Fl) : Prop := PSs X st (tS g W s)

theorem peImp {X : Cx} {e : Expr} {t t' : TE} (h : PE X e t) (i : ∀ σ H Q, t' σ H Q → t σ H Q) : PE X e t' := ⟨fun pins s σ H Q I q => h.run pins s σ H Q I (i σ H Q q)⟩
theorem ptImp {X : Cx} {e : Expr} {t t' : TT} (h : PT X e t) (i : ∀ σ H Q, t' σ H Q → t σ H Q) : PT X e t' := ⟨fun pins s σ H Q I q => h.run pins s σ H Q I (i σ H Q q)⟩
theorem pwImp {X : Cx} {e : Expr} {t t' : TT} (h : PW X e t) (i : ∀ σ H Q, t' σ H Q → t σ H Q) : PW X e t' := ⟨fun wh pins s σ H Q I q => h.run wh pins s σ H Q I (i σ H Q q)⟩
theorem paImp {X : Cx} {e : List Expr} {t t' : TA} (h : PA X e t) (i : ∀ σ H Q, t' σ H Q → t σ H Q) : PA X e t' := ⟨fun pos pins s σ H Q I q => h.run pos pins s σ H Q I (i σ H Q q)⟩
theorem psImp {X : Cx} {e : Stmt} {t t' : TS} (h : PS X e t) (i : ∀ D σ H, t' D σ H → t D σ H) : PS X e t' := ⟨fun pins s σ H D I q => h.run pins s σ H D I (i D σ H q)⟩
theorem pssImp {X : Cx} {e : List Stmt} {t t' : TS} (h : PSs X e t) (i : ∀ D σ H, t' D σ H → t D σ H) : PSs X e t' := ⟨fun pins s σ H D I q => h.run pins s σ H D I (i D σ H q)⟩

section
variable {g : Gm} {W : WX} {α β γ δ : Type} {rel : Hp → L2.St → α → β → Prop} {rel2 : Hp → L2.St → γ → δ → Prop} {ρ : Nat → Addr} {G F F1 : Hp} {E : Nv} {σ : L2.St} {H : Hp}
theorem postX.mono (s : Same F F1) {c : Nat} {fs : Option (Str × D)} {E' : Nv} (h : postX g W ρ G F σ c fs E') : postX g W ρ G F1 σ c fs E' := fun dx F' H' st q x => h dx F' H' st (s.trans q) x
theorem post.mono (s : Same F F1) {Q : β → Hp → Prop} : ∀ {r : R α}, post g W rel ρ G F σ Q r → post g W rel ρ G F1 σ Q r
  | .val _ _, h => fun b F' H' st q x => h b F' H' st (s.trans q) x
  | .exc _ _ _, h => postX.mono s h
  | .bad, h => h
theorem postN.mono (s : Same F F1) {Q : VK} : ∀ {r : R D}, postN g W ρ G F σ Q r → postN g W ρ G F1 σ Q r
  | .val _ _, h => fun p o F' H' st n ow q => h p o F' H' st n ow (s.trans q)
  | .exc _ _ _, h => postX.mono s h
  | .bad, h => h
theorem postS.mono (s : Same F F1) {D : Ends} : ∀ {r : R Fl}, postS g W ρ G F D r → postS g W ρ G F1 D r
  | .val .nx _, h => fun σ' F' H' st q => h σ' F' H' st (s.trans q)
  | .val .bk _, h => fun σ' F' H' st q => h σ' F' H' st (s.trans q)
  | .val .ct _, h => fun σ' F' H' st q => h σ' F' H' st (s.trans q)
  | .val (.rt _) _, h => fun v σ' F' H' st q r => h v σ' F' H' st (s.trans q) r
  | .val (.rn _) _, h => fun p o σ' F' H' st n ow q => h p o σ' F' H' st n ow (s.trans q)
  | .exc _ _ _, h => fun dx σ' F' H' st q x => h dx σ' F' H' st (s.trans q) x
  | .bad, h => h
/-- an expression, then the rest -/
theorem bindE {f : Nv → R α} {k : α → Nv → R γ} {Q2 : δ → Hp → Prop} {Q1 : β → Hp → Prop} (st : StOk g ρ G E F σ H) (h : post g W rel2 ρ G F σ Q2 ((f E).bind k))
    (cont : ∀ a E1 b F1 H1, StOk g ρ G E1 F1 σ H1 → Same F F1 → rel F1 σ a b → post g W rel2 ρ G F1 σ Q2 (k a E1) → Q1 b H1) : tG g W rel f σ H Q1 := by
  refine ⟨ρ, G, E, F, st, ?_⟩
  revert h
  cases f E with
  | val a E1 => exact fun h b F' H' st' s r => cont a E1 b F' H' st' s r (post.mono (r := k a E1) s h)
  | exc c fs E' => exact fun h => h
  | bad => exact fun h => h
theorem bindN {f : Nv → R α} {k : α → Nv → R D} {Q2 : VK} {Q1 : β → Hp → Prop} (st : StOk g ρ G E F σ H) (h : postN g W ρ G F σ Q2 ((f E).bind k))
    (cont : ∀ a E1 b F1 H1, StOk g ρ G E1 F1 σ H1 → Same F F1 → rel F1 σ a b → postN g W ρ G F1 σ Q2 (k a E1) → Q1 b H1) : tG g W rel f σ H Q1 := by
  refine ⟨ρ, G, E, F, st, ?_⟩
  revert h
  cases f E with
  | val a E1 => exact fun h b F' H' st' s r => cont a E1 b F' H' st' s r (postN.mono (r := k a E1) s h)
  | exc c fs E' => exact fun h => h
  | bad => exact fun h => h
theorem bindS {f : Nv → R α} {k : α → Nv → R Fl} {D : Ends} {Q1 : β → Hp → Prop} (st : StOk g ρ G E F σ H) (h : postS g W ρ G F D ((f E).bind k))
    (cont : ∀ a E1 b F1 H1, StOk g ρ G E1 F1 σ H1 → Same F F1 → rel F1 σ a b → postS g W ρ G F1 D (k a E1) → Q1 b H1) : tG g W rel f σ H Q1 := by
  refine ⟨ρ, G, E, F, st, ?_⟩
  revert h
  cases f E with
  | val a E1 => exact fun h b F' H' st' s r => cont a E1 b F' H' st' s r (postS.mono (r := k a E1) s h)
  | exc c fs E' => exact fun h dx F' H' st' s x => h dx σ F' H' st' s x
  | bad => exact fun h => h
/-- a new object, then the rest -/
theorem bindNE {f : Nv → R D} {k : D → Nv → R γ} {Q2 : δ → Hp → Prop} {Q1 : VK} (st : StOk g ρ G E F σ H) (h : post g W rel2 ρ G F σ Q2 ((f E).bind k))
    (cont : ∀ d E1 p o F1 H1, StOk g ρ (upd G p o) E1 F1 σ H1 → G p = none → OwnO g F1 d o → Same F F1 → post g W rel2 ρ G F1 σ Q2 (k d E1) → Q1 (.ref p) H1) : tN g W f σ H Q1 := by
  refine ⟨ρ, G, E, F, st, ?_⟩
  revert h
  cases f E with
  | val a E1 => exact fun h p o F' H' st' n ow s => cont a E1 p o F' H' st' n ow s (post.mono (r := k a E1) s h)
  | exc c fs E' => exact fun h => h
  | bad => exact fun h => h
theorem bindNS {f : Nv → R D} {k : D → Nv → R Fl} {D' : Ends} {Q1 : VK} (st : StOk g ρ G E F σ H) (h : postS g W ρ G F D' ((f E).bind k))
    (cont : ∀ d E1 p o F1 H1, StOk g ρ (upd G p o) E1 F1 σ H1 → G p = none → OwnO g F1 d o → Same F F1 → postS g W ρ G F1 D' (k d E1) → Q1 (.ref p) H1) : tN g W f σ H Q1 := by
  refine ⟨ρ, G, E, F, st, ?_⟩
  revert h
  cases f E with
  | val a E1 => exact fun h p o F' H' st' n ow s => cont a E1 p o F' H' st' n ow s (postS.mono (r := k a E1) s h)
  | exc c fs E' => exact fun h dx F' H' st' s x => h dx σ F' H' st' s x
  | bad => exact fun h => h
end

/-! ## value operations -/
/-- only new frozen objects -/
def Grow (g : Gm) (F H F' H' : Hp) : Prop := Same F F' ∧ ∀ ρ G E σ, StOk g ρ G E F σ H → StOk g ρ G E F' σ H'
theorem Grow.refl {g : Gm} {F H : Hp} : Grow g F H F H := ⟨Same.refl _, fun _ _ _ _ h => h⟩
theorem Grow.new {g : Gm} {F H : Hp} {p : Addr} (o : HO) (sf : Same F H) (h : H p = none) : Grow g F H (upd F p o) (upd H p o) := ⟨Same.new (sf.free h), fun _ _ _ _ st => st.grow h o⟩
/-- d stands at v: frozen, or an owned cell's content -/
def RepH (g : Gm) (F H : Hp) (d : D) (v : V) : Prop := Rep g F d v ∨ ∃ p o, v = .ref p ∧ H p = some o ∧ OwnO g F d o
def RepHL (g : Gm) (F H : Hp) : List D → List V → Prop
  | [], vs => vs = []
  | d :: ds, vs => ∃ x xs, vs = x :: xs ∧ RepH g F H d x ∧ RepHL g F H ds xs
section
variable {g : Gm} {ρ : Nat → Addr} {G F F' H : Hp} {E : Nv} {σ : L2.St} {d : D} {v : V}
theorem ar_ok (st : StOk g ρ G E F σ H) : ∀ {a : Ar} {d : D} {v : V}, ArOk g F σ a v → a.get E = some d → RepH g F H d v
  | .v _, _, _, h, e => by cases e; exact .inl h
  | .pk i, d, v, h, e => by
    have h : σ[i]? = some (some v) := h
    unfold Ar.get at e
    cases q : E[i]? with
    | none => simp [q] at e
    | some s =>
      simp only [q] at e
      cases s with
      | no => cases e
      | fz x =>
        cases e
        obtain ⟨w, a, b⟩ := st.fz i _ q
        rw [h] at a
        cases a
        exact .inl b
      | own x =>
        cases e
        obtain ⟨p, a, _, _, o, b, c⟩ := st.at q rfl
        rw [h] at a
        cases a
        exact .inr ⟨p, o, rfl, b, c⟩
      | bor k x =>
        cases e
        obtain ⟨p, a, _, _, o, b, c⟩ := st.at q rfl
        rw [h] at a
        cases a
        exact .inr ⟨p, o, rfl, b, c⟩
/-- all operands' data -/
def arGets (E : Nv) : List Ar → Option (List D)
  | [] => some []
  | a :: as => match a.get E with
    | none => none
    | some d => match arGets E as with
      | none => none
      | some ds => some (d :: ds)
theorem ars_ok (st : StOk g ρ G E F σ H) : ∀ {as : List Ar} {ds : List D} {vs : List V}, ArsOk g F σ as vs → arGets E as = some ds → RepHL g F H ds vs
  | [], _, _, h, e => by cases e; exact h
  | a :: as, ds, _, ⟨x, xs, e1, r, t⟩, e => by
    subst e1
    unfold arGets at e
    cases q : a.get E with
    | none => simp [q] at e
    | some d =>
      cases q2 : arGets E as with
      | none => simp [q, q2] at e
      | some ds' =>
        simp [q, q2] at e
        subst e
        exact ⟨x, xs, rfl, ar_ok st r q, ars_ok st t q2⟩
theorem RepH.non (h : RepH g F H .non v) : v = .non := by rcases h with h | ⟨_, _, _, _, h⟩; exact h; exact h.elim
theorem RepH.bl {b : Bool} (h : RepH g F H (.bl b) v) : v = .bl b := by rcases h with h | ⟨_, _, _, _, h⟩; exact h; exact h.elim
theorem RepH.int {b : Int} (h : RepH g F H (.int b) v) : v = .int b := by rcases h with h | ⟨_, _, _, _, h⟩; exact h; exact h.elim
theorem RepH.str {b : Str} (h : RepH g F H (.str b) v) : v = .str b := by rcases h with h | ⟨_, _, _, _, h⟩; exact h; exact h.elim
theorem RepH.ty {b : String} (h : RepH g F H (.ty b) v) : v = .ty b := by rcases h with h | ⟨_, _, _, _, h⟩; exact h; exact h.elim
theorem RepH.cls {b : Nat} (h : RepH g F H (.cls b) v) : v = .ref (g.cls b) := by rcases h with h | ⟨_, _, _, _, h⟩; exact h; exact h.elim
theorem RepH.tup {ds : List D} (sf : Same F H) (h : RepH g F H (.tup ds) v) : ∃ a xs, v = .ref a ∧ SqT g.K H a xs ∧ RepL g F ds xs := by
  rcases h with ⟨a, xs, e, q, r⟩ | ⟨_, _, _, _, h⟩
  · exact ⟨a, xs, e, same_t sf q, r⟩
  · exact h.elim
theorem RepH.scr {ns : List Int} (sf : Same F H) (h : RepH g F H (.scr ns) v) : ∃ a, v = .ref a ∧ SqL g.K H a (ns.map V.int) := by
  rcases h with ⟨a, e, q⟩ | ⟨_, _, _, _, h⟩
  · exact ⟨a, e, sf.seq q⟩
  · exact h.elim
theorem RepH.lst {ds : List D} (sf : Same F H) (h : RepH g F H (.lst ds) v) : ∃ a xs, v = .ref a ∧ H a = some (.lst xs) ∧ RepL g F ds xs := by
  rcases h with ⟨a, xs, e, q, r⟩ | ⟨p, o, e, hp, xs, rfl, r⟩
  · exact ⟨a, xs, e, sf _ _ q, r⟩
  · exact ⟨p, xs, e, hp, r⟩
theorem RepH.ins {c : Nat} {ns : List Str} {ds : List D} (sf : Same F H) (h : RepH g F H (.ins c ns ds) v) : ∃ a dx xs, v = .ref a ∧ H a = some (.ins (g.cls c) dx (ns.zip xs)) ∧ ns.length = xs.length ∧ RepL g F ds xs := by
  rcases h with ⟨a, dx, xs, e, q, l, r⟩ | ⟨p, o, e, hp, dx, xs, rfl, l, r⟩
  · exact ⟨a, dx, xs, e, sf _ _ q, l, r⟩
  · exact ⟨p, dx, xs, e, hp, l, r⟩
theorem RepHL.one (h : RepHL g F H [d] vs) : ∃ x, vs = [x] ∧ RepH g F H d x := by
  obtain ⟨x, xs, rfl, r, e⟩ := h
  cases (show xs = [] from e)
  exact ⟨x, rfl, r⟩
theorem RepHL.two {d e : D} {vs : List V} (h : RepHL g F H [d, e] vs) : ∃ x y, vs = [x, y] ∧ RepH g F H d x ∧ RepH g F H e y := by
  obtain ⟨x, xs, rfl, r, t⟩ := h
  obtain ⟨y, rfl, q⟩ := RepHL.one t
  exact ⟨x, y, rfl, r, q⟩
end
/-- a two-place operation; one of an argument list; with a new owned result -/
def Op2 (g : Gm) (r : R2) (o : D → D → Option D) : Prop := ∀ (F H : Hp) (v u : V) (d e z : D) (Q : VK), Same F H → RepH g F H d v → RepH g F H e u → o d e = some z →
  (∀ w F' H', Grow g F H F' H' → Rep g F' z w → Q w H') → r v u H Q
def OpL (g : Gm) (r : List V → Hp → VK → Prop) (o : List D → Option D) : Prop := ∀ (F H : Hp) (vs : List V) (ds : List D) (z : D) (Q : VK), Same F H → RepHL g F H ds vs → o ds = some z →
  (∀ w F' H', Grow g F H F' H' → Rep g F' z w → Q w H') → r vs H Q
def OpN (g : Gm) (r : List V → Hp → VK → Prop) (o : List D → Option D) : Prop := ∀ (F H : Hp) (vs : List V) (ds : List D) (z : D) (Q : VK), Same F H → RepHL g F H ds vs → o ds = some z →
  (∀ p ob, H p = none → OwnO g F z ob → Q (.ref p) (upd H p ob)) → r vs H Q
def Op2N (g : Gm) (r : R2) (o : D → D → Option D) : Prop := ∀ (F H : Hp) (v u : V) (d e z : D) (Q : VK), Same F H → RepH g F H d v → RepH g F H e u → o d e = some z →
  (∀ p ob, H p = none → OwnO g F z ob → Q (.ref p) (upd H p ob)) → r v u H Q

/-! ## expressions -/
def fC (d : D) : Nv → R D := fun E => .val d E
def fVar (i : Nat) : Nv → R D := fun E => match E[i]? with
  | some (.fz d) => .val d E
  | some (.own d) => .val d (E.set i (.fz d))
  | _ => .bad
def fV (f : Nv → R D) : Nv → R Ar := fun E => (f E).bind fun d E1 => .val (.v d) E1
def fPk (i : Nat) : Nv → R Ar := fun E => match E[i]? with
  | some s => match s.cont with
    | some _ => .val (.pk i) E
    | none => .bad
  | none => .bad
def res2 (o : D → D → Option D) (E : Nv) (a b : Ar) : R D := match a.get E with
  | none => .bad
  | some d => match b.get E with
    | none => .bad
    | some e => R.some (o d e) E
def fOp2 (o : D → D → Option D) (fa fb : Nv → R Ar) : Nv → R D := fun E => (fa E).bind fun a E1 => (fb E1).bind fun b E2 => res2 o E2 a b
def fAs : List (Nv → R Ar) → Nv → R (List Ar)
  | [], E => .val [] E
  | f :: fs, E => (f E).bind fun a E1 => (fAs fs E1).bind fun as E2 => .val (a :: as) E2
def resL (o : List D → Option D) (E : Nv) (as : List Ar) : R D := match arGets E as with
  | none => .bad
  | some ds => R.some (o ds) E
def fOpL (o : List D → Option D) (fs : Nv → R (List Ar)) : Nv → R D := fun E => (fs E).bind fun as E1 => resL o E1 as
def asB : D → Option Bool
  | .bl b => some b
  | _ => none
def fTest (f : Nv → R D) : Nv → R Bool := fun E => (f E).bind fun d E1 => R.some (asB d) E1
def fChain (o o' : D → D → Option D) (fa fb fc : Nv → R Ar) : Nv → R D := fun E => (fa E).bind fun a E1 => (fb E1).bind fun b E2 => (res2 o E2 a b).bind fun z E3 => match asB z with
  | some true => (fc E3).bind fun c E4 => res2 o' E4 b c
  | some false => .val (.bl false) E3
  | none => .bad
def fAnd (fa fb : Nv → R D) : Nv → R D := fun E => (fa E).bind fun d E1 => match asB d with
  | some true => fb E1
  | some false => .val (.bl false) E1
  | none => .bad
def fOr (fa fb : Nv → R D) : Nv → R D := fun E => (fa E).bind fun d E1 => match asB d with
  | some true => .val (.bl true) E1
  | some false => fb E1
  | none => .bad
def fNot (fa : Nv → R D) : Nv → R D := fun E => (fa E).bind fun d E1 => match asB d with
  | some b => .val (.bl (!b)) E1
  | none => .bad
def tAndF (fa fb : Nv → R Bool) : Nv → R Bool := fun E => (fa E).bind fun b E1 => if b = true then fb E1 else .val false E1
def tOrF (fa fb : Nv → R Bool) : Nv → R Bool := fun E => (fa E).bind fun b E1 => if b = true then .val true E1 else fb E1
def tNotF (fa : Nv → R Bool) : Nv → R Bool := fun E => (fa E).bind fun b E1 => .val (!b) E1
def fIf {α : Type} (t : Nv → R Bool) (fa fb : Nv → R α) : Nv → R α := fun E => (t E).bind fun b E1 => if b = true then fa E1 else fb E1
section
variable {X : Cx} {g : Gm} {W : WX} {e a b c : Expr} {es : List Expr} {pos : Pos}
theorem fe_var {i : Nat} (h : PE X e (tVar i)) : FE X g W e (fVar i) := peImp h fun σ H Q ⟨ρ, G, E, F, st, q⟩ => by
  unfold fVar at q
  cases z : E[i]? with
  | none => simp only [z] at q; exact q.elim
  | some s =>
    simp only [z] at q
    cases s with
    | no => exact q.elim
    | bor _ _ => exact q.elim
    | fz d =>
      obtain ⟨v, x, r⟩ := st.fz i d z
      exact ⟨v, x, q v F H st (Same.refl F) r⟩
    | own d =>
      obtain ⟨v, F', x, s, r, st'⟩ := st.demote z
      exact ⟨v, x, q v F' H st' s r⟩
theorem fe_c {v : V} (h : PE X e (tC v)) (d : D) (r : ∀ F, Rep g F d v) : FE X g W e (fC d) := peImp h fun σ H Q ⟨ρ, G, E, F, st, q⟩ => q v F H st (Same.refl F) (r F)
theorem fo_val {f : Nv → R D} (h : FE X g W e f) : FO X g W e (fV f) := peImp h fun σ H Q ⟨ρ, G, E, F, st, q⟩ =>
  bindE st q fun d E1 v F1 H1 st1 s1 r1 q1 => q1 v F1 H1 st1 (Same.refl F1) r1
theorem fo_pk {i : Nat} (h : PE X e (tVar i)) : FO X g W e (fPk i) := peImp h fun σ H Q ⟨ρ, G, E, F, st, q⟩ => by
  unfold fPk at q
  cases z : E[i]? with
  | none => simp only [z] at q; exact q.elim
  | some s =>
    simp only [z] at q
    cases s with
    | no => exact q.elim
    | fz d =>
      obtain ⟨v, x, r⟩ := st.fz i d z
      exact ⟨v, x, q v F H st (Same.refl F) x⟩
    | own d =>
      obtain ⟨p, x, r⟩ := st.at z rfl
      exact ⟨_, x, q _ F H st (Same.refl F) x⟩
    | bor k d =>
      obtain ⟨p, x, r⟩ := st.at z rfl
      exact ⟨_, x, q _ F H st (Same.refl F) x⟩
theorem res2_ok {r : R2} {o : D → D → Option D} (hr : Op2 g r o) {ρ : Nat → Addr} {G F H : Hp} {E : Nv} {σ : L2.St} {x y : Ar} {v u : V} {Q : VK} (st : StOk g ρ G E F σ H) (rx : ArOk g F σ x v) (ry : ArOk g F σ y u)
    {Q1 : VK} (h : ∀ z, res2 o E x y = .val z E → ∀ w F' H', Same F F' → StOk g ρ G E F' σ H' → Rep g F' z w → Q1 w H') (nb : res2 o E x y ≠ .bad) : r v u H Q1 := by
  unfold res2 at h nb
  cases e1 : x.get E with
  | none => simp [e1] at nb
  | some d =>
    cases e2 : y.get E with
    | none => simp [e1, e2] at nb
    | some e =>
      simp only [e1, e2] at h nb
      cases e3 : o d e with
      | none => simp [e3, R.some] at nb
      | some z =>
        simp only [e3, R.some] at h
        exact hr F H v u d e z Q1 st.sf (ar_ok st rx e1) (ar_ok st ry e2) e3 fun w F' H' gr rw' => h z rfl w F' H' gr.1 (gr.2 _ _ _ _ st) rw'
theorem le_op2 {r : R2} {o : D → D → Option D} (hr : Op2 g r o) {fa fb : Nv → R Ar} {σ : L2.St} {H : Hp} {Q : VK} (h : tG g W (relD g) (fOp2 o fa fb) σ H Q) : tOp r (tG g W (relA g) fa) (tG g W (relA g) fb) σ H Q := by
  obtain ⟨ρ, G, E, F, st, q⟩ := h
  refine bindE st q fun x E1 v F1 H1 st1 s1 r1 q1 => ?_
  refine bindE st1 q1 fun y E2 u F2 H2 st2 s2 r2 q2 => ?_
  refine res2_ok (Q := Q) hr st2 (r1.mono s2) r2 (fun z e w F' H' s st' r => ?_) fun e => by rw [e] at q2; exact q2.elim
  rw [e] at q2
  exact q2 w F' H' st' s r
theorem fe_op2 {r : R2} {o : D → D → Option D} (hr : Op2 g r o) {fa fb : Nv → R Ar} (h : PE X e (tOp r (tG g W (relA g) fa) (tG g W (relA g) fb))) : FE X g W e (fOp2 o fa fb) := peImp h fun _ _ _ q => le_op2 hr q
theorem le_test {f : Nv → R D} {t : TE} (i : ∀ σ H Q, tG g W (relD g) f σ H Q → t σ H Q) {σ : L2.St} {H : Hp} {Q : Bool → Hp → Prop} (h : tG g W relB (fTest f) σ H Q) : t σ H fun x H' => ∃ k, x = .bl k ∧ Q k H' := by
  obtain ⟨ρ, G, E, F, st, q⟩ := h
  refine i _ _ _ (bindE st q fun d E1 v F1 H1 st1 s1 r1 q1 => ?_)
  cases d with
  | bl k =>
    obtain rfl : v = .bl k := r1
    exact ⟨k, rfl, q1 k F1 H1 st1 (Same.refl _) rfl⟩
  | _ => exact q1.elim
theorem ft_op2 {r : R2} {o : D → D → Option D} (hr : Op2 g r o) {fa fb : Nv → R Ar} (h : PT X e (tTest (tOp r (tG g W (relA g) fa) (tG g W (relA g) fb)))) : FT X g W e (fTest (fOp2 o fa fb)) := ptImp h fun _ _ _ q => le_test (fun _ _ _ => le_op2 hr) q
theorem ft_val {f : Nv → R D} (h : PT X e (tB (tG g W (relD g) f))) : FT X g W e (fTest f) := ptImp h fun _ _ _ q => le_test (fun _ _ _ z => z) q
theorem le_chain {r r' : R2} {o o' : D → D → Option D} (hr : Op2 g r o) (hr' : Op2 g r' o') {fa fb fc : Nv → R Ar} {σ : L2.St} {H : Hp} {Q : VK} (h : tG g W (relD g) (fChain o o' fa fb fc) σ H Q) :
    tChain r r' (tG g W (relA g) fa) (tG g W (relA g) fb) (tG g W (relA g) fc) σ H Q := by
  obtain ⟨ρ, G, E, F, st, q⟩ := h
  refine bindE st q fun x E1 v F1 H1 st1 s1 r1 q1 => ?_
  refine bindE st1 q1 fun y E2 u F2 H2 st2 s2 r2 q2 => ?_
  refine res2_ok (Q := Q) hr st2 (r1.mono s2) r2 (fun z e w F3 H3 s3 st3 r3 => ?_) fun e => by rw [e] at q2; exact q2.elim
  rw [e] at q2
  have q2 : post g W (relD g) ρ G F2 σ Q (match asB z with | some true => (fc E2).bind fun c E4 => res2 o' E4 y c | some false => .val (.bl false) E2 | none => .bad) := q2
  cases z with
  | bl k =>
    obtain rfl : w = .bl k := r3
    refine ⟨k, rfl, ?_⟩
    cases k with
    | true =>
      rw [if_pos rfl]
      refine bindE (rel := relA g) st3 (post.mono s3 q2) fun c E4 w F4 H4 st4 s4 r4 q4 => ?_
      refine res2_ok (Q := Q) hr' st4 (r2.mono (s3.trans s4)) r4 (fun z' e' w' F' H' s st' r => ?_) fun e' => by rw [e'] at q4; exact q4.elim
      rw [e'] at q4
      exact q4 w' F' H' st' s r
    | false =>
      rw [if_neg Bool.false_ne_true]
      exact q2 (.bl false) F3 H3 st3 s3 rfl
  | _ => exact q2.elim
theorem fe_chain {r r' : R2} {o o' : D → D → Option D} (hr : Op2 g r o) (hr' : Op2 g r' o') {fa fb fc : Nv → R Ar} (h : PE X e (tChain r r' (tG g W (relA g) fa) (tG g W (relA g) fb) (tG g W (relA g) fc))) : FE X g W e (fChain o o' fa fb fc) :=
  peImp h fun _ _ _ q => le_chain hr hr' q
theorem ft_chain {r r' : R2} {o o' : D → D → Option D} (hr : Op2 g r o) (hr' : Op2 g r' o') {fa fb fc : Nv → R Ar} (h : PT X e (tTest (tChain r r' (tG g W (relA g) fa) (tG g W (relA g) fb) (tG g W (relA g) fc)))) : FT X g W e (fTest (fChain o o' fa fb fc)) :=
  ptImp h fun _ _ _ q => le_test (fun _ _ _ => le_chain hr hr') q
theorem fe_and {fa fb : Nv → R D} (h : PE X e (tAndV (tG g W (relD g) fa) (tG g W (relD g) fb))) : FE X g W e (fAnd fa fb) := peImp h fun σ H Q ⟨ρ, G, E, F, st, q⟩ =>
  bindE st q fun d E1 v F1 H1 st1 s1 r1 q1 => by
    cases d with
    | bl k =>
      obtain rfl : v = .bl k := r1
      refine ⟨k, rfl, ?_⟩
      cases k with
      | true => rw [if_pos rfl]; exact ⟨ρ, G, E1, F1, st1, q1⟩
      | false => rw [if_neg Bool.false_ne_true]; exact q1 _ F1 H1 st1 (Same.refl _) rfl
    | _ => exact q1.elim
theorem fe_or {fa fb : Nv → R D} (h : PE X e (tOrV (tG g W (relD g) fa) (tG g W (relD g) fb))) : FE X g W e (fOr fa fb) := peImp h fun σ H Q ⟨ρ, G, E, F, st, q⟩ =>
  bindE st q fun d E1 v F1 H1 st1 s1 r1 q1 => by
    cases d with
    | bl k =>
      obtain rfl : v = .bl k := r1
      refine ⟨k, rfl, ?_⟩
      cases k with
      | true => rw [if_pos rfl]; exact q1 _ F1 H1 st1 (Same.refl _) rfl
      | false => rw [if_neg Bool.false_ne_true]; exact ⟨ρ, G, E1, F1, st1, q1⟩
    | _ => exact q1.elim
theorem fe_not {fa : Nv → R D} (h : PE X e (tNotV (tG g W (relD g) fa))) : FE X g W e (fNot fa) := peImp h fun σ H Q ⟨ρ, G, E, F, st, q⟩ =>
  bindE st q fun d E1 v F1 H1 st1 s1 r1 q1 => by
    cases d with
    | bl k =>
      obtain rfl : v = .bl k := r1
      exact ⟨k, rfl, q1 _ F1 H1 st1 (Same.refl _) rfl⟩
    | _ => exact q1.elim
theorem le_and {fa fb : Nv → R Bool} {σ : L2.St} {H : Hp} {Q : Bool → Hp → Prop} (h : tG g W relB (tAndF fa fb) σ H Q) : tAnd (tG g W relB fa) (tG g W relB fb) σ H Q := by
  obtain ⟨ρ, G, E, F, st, q⟩ := h
  refine bindE st q fun k E1 c F1 H1 st1 s1 r1 q1 => ?_
  obtain rfl : k = c := r1
  cases k with
  | true => rw [if_pos rfl]; exact ⟨ρ, G, E1, F1, st1, q1⟩
  | false => rw [if_neg Bool.false_ne_true]; exact q1 _ F1 H1 st1 (Same.refl _) rfl
theorem le_or {fa fb : Nv → R Bool} {σ : L2.St} {H : Hp} {Q : Bool → Hp → Prop} (h : tG g W relB (tOrF fa fb) σ H Q) : tOr (tG g W relB fa) (tG g W relB fb) σ H Q := by
  obtain ⟨ρ, G, E, F, st, q⟩ := h
  refine bindE st q fun k E1 c F1 H1 st1 s1 r1 q1 => ?_
  obtain rfl : k = c := r1
  cases k with
  | true => rw [if_pos rfl]; exact q1 _ F1 H1 st1 (Same.refl _) rfl
  | false => rw [if_neg Bool.false_ne_true]; exact ⟨ρ, G, E1, F1, st1, q1⟩
abbrev FW (X : Cx) (g : Gm) (W : WX) (e : Expr) (f : Nv → R Bool) : Prop := PW X e (tG g W relB f)
variable {rest : List Expr}
theorem fw_and1 {fa : Nv → R Bool} (h : FT X g W a fa) : FW X g W (.BoolOp .And [a] pos) fa := pw_and1 h
theorem fw_or1 {fa : Nv → R Bool} (h : FT X g W a fa) : FW X g W (.BoolOp .Or [a] pos) fa := pw_or1 h
theorem fw_and {fa fb : Nv → R Bool} (h : FT X g W a fa) (k : FW X g W (.BoolOp .And (b :: rest) pos) fb) : FW X g W (.BoolOp .And (a :: b :: rest) pos) (tAndF fa fb) := pwImp (pw_and h k) fun _ _ _ q => le_and q
theorem fw_or {fa fb : Nv → R Bool} (h : FT X g W a fa) (k : FW X g W (.BoolOp .Or (b :: rest) pos) fb) : FW X g W (.BoolOp .Or (a :: b :: rest) pos) (tOrF fa fb) := pwImp (pw_or h k) fun _ _ _ q => le_or q
theorem ft_not {fa : Nv → R Bool} (h : FT X g W a fa) : FT X g W (.UnaryOp .Not a pos) (tNotF fa) := ptImp (pt_not h) fun σ H Q ⟨ρ, G, E, F, st, q⟩ =>
  bindE st q fun k E1 c F1 H1 st1 s1 r1 q1 => q1 (!c) F1 H1 st1 (Same.refl _) (by rw [show k = c from r1])
theorem fe_if {t : Nv → R Bool} {fa fb : Nv → R D} (ht : FT X g W c t) (ha : FE X g W a fa) (hb : FE X g W b fb) : FE X g W (.IfExp c a b pos) (fIf t fa fb) := peImp (pe_ifExp ht ha hb) fun σ H Q ⟨ρ, G, E, F, st, q⟩ =>
  bindE st q fun k E1 c F1 H1 st1 s1 r1 q1 => by
    obtain rfl : k = c := r1
    cases k with
    | true => rw [if_pos rfl]; exact ⟨ρ, G, E1, F1, st1, q1⟩
    | false => rw [if_neg Bool.false_ne_true]; exact ⟨ρ, G, E1, F1, st1, q1⟩
/-! operand lists -/
theorem fa_nil : FA X g W [] (fAs []) := paImp pa_nil fun σ H Q ⟨ρ, G, E, F, st, q⟩ => q [] F H st (Same.refl _) rfl
theorem fa_cons {f : Nv → R Ar} {fs : List (Nv → R Ar)} (h : FO X g W e f) (k : FA X g W es (fAs fs)) (hs : starEach (e :: es) X.env = (false, eval e X.env) :: starEach es X.env := by rfl) : FA X g W (e :: es) (fAs (f :: fs)) :=
  paImp (pa_cons h k hs) fun σ H Q ⟨ρ, G, E, F, st, q⟩ =>
    bindE st q fun x E1 v F1 H1 st1 s1 r1 q1 => bindE st1 q1 fun xs E2 vs F2 H2 st2 s2 r2 q2 => q2 (v :: vs) F2 H2 st2 (Same.refl _) ⟨v, vs, rfl, r1.mono s2, r2⟩
theorem resL_ok {r : List V → Hp → VK → Prop} {o : List D → Option D} (hr : OpL g r o) {ρ : Nat → Addr} {G F H : Hp} {E : Nv} {σ : L2.St} {xs : List Ar} {vs : List V} (st : StOk g ρ G E F σ H) (rx : ArsOk g F σ xs vs)
    {Q1 : VK} (h : ∀ z, resL o E xs = .val z E → ∀ w F' H', Same F F' → StOk g ρ G E F' σ H' → Rep g F' z w → Q1 w H') (nb : resL o E xs ≠ .bad) : r vs H Q1 := by
  unfold resL at h nb
  cases e1 : arGets E xs with
  | none => simp [e1] at nb
  | some ds =>
    simp only [e1] at h nb
    cases e3 : o ds with
    | none => simp [e3, R.some] at nb
    | some z =>
      simp only [e3, R.some] at h
      exact hr F H vs ds z Q1 st.sf (ars_ok st rx e1) e3 fun w F' H' gr rw' => h z rfl w F' H' gr.1 (gr.2 _ _ _ _ st) rw'
theorem le_opL {r : List V → Hp → VK → Prop} {o : List D → Option D} (hr : OpL g r o) {fs : Nv → R (List Ar)} {σ : L2.St} {H : Hp} {Q : VK} (h : tG g W (relD g) (fOpL o fs) σ H Q) : tCB r (tG g W (relAs g) fs) σ H Q := by
  obtain ⟨ρ, G, E, F, st, q⟩ := h
  refine bindE st q fun x E1 v F1 H1 st1 s1 r1 q1 => ?_
  refine resL_ok hr st1 r1 (fun z e w F' H' s st' r => ?_) fun e => by rw [e] at q1; exact q1.elim
  rw [e] at q1
  exact q1 w F' H' st' s r
theorem fe_opL {r : List V → Hp → VK → Prop} {o : List D → Option D} (hr : OpL g r o) {fs : Nv → R (List Ar)} (h : PE X e (tCB r (tG g W (relAs g) fs))) : FE X g W e (fOpL o fs) := peImp h fun _ _ _ q => le_opL hr q
theorem fn_opL {r : List V → Hp → VK → Prop} {o : List D → Option D} (hr : OpN g r o) {fs : Nv → R (List Ar)} (h : PE X e (tCB r (tG g W (relAs g) fs))) : FN X g W e (fOpL o fs) := peImp h fun σ H Q ⟨ρ, G, E, F, st, q⟩ => by
  refine bindN st q fun x E1 vs F1 H1 st1 s1 r1 q1 => ?_
  unfold resL at q1
  cases e1 : arGets E1 x with
  | none => simp only [e1] at q1; exact q1.elim
  | some ds =>
    simp only [e1] at q1
    cases e3 : o ds with
    | none => simp only [e3, R.some] at q1; exact q1.elim
    | some z =>
      simp only [e3, R.some] at q1
      exact hr F1 H1 vs ds z Q st1.sf (ars_ok st1 r1 e1) e3 fun p ob hp ow => q1 p ob F1 _ (st1.temp hp ob) (st1.fG hp) ow (Same.refl _)
theorem fn_op2 {r : R2} {o : D → D → Option D} (hr : Op2N g r o) {fa fb : Nv → R Ar} (h : PE X e (tOp r (tG g W (relA g) fa) (tG g W (relA g) fb))) : FN X g W e (fOp2 o fa fb) := peImp h fun σ H Q ⟨ρ, G, E, F, st, q⟩ => by
  refine bindN st q fun x E1 v F1 H1 st1 s1 r1 q1 => ?_
  refine bindN st1 q1 fun y E2 u F2 H2 st2 s2 r2 q2 => ?_
  unfold res2 at q2
  cases e1 : x.get E2 with
  | none => simp only [e1] at q2; exact q2.elim
  | some d =>
    cases e2 : y.get E2 with
    | none => simp only [e1, e2] at q2; exact q2.elim
    | some e =>
      simp only [e1, e2] at q2
      cases e3 : o d e with
      | none => simp only [e3, R.some] at q2; exact q2.elim
      | some z =>
        simp only [e3, R.some] at q2
        exact hr F2 H2 v u d e z Q st2.sf (ar_ok st2 (r1.mono s2) e1) (ar_ok st2 r2 e2) e3 fun p ob hp ow => q2 p ob F2 _ (st2.temp hp ob) (st2.fG hp) ow (Same.refl _)
/-- a new object, frozen -/
theorem fe_fn {f : Nv → R D} (h : FN X g W e f) : FE X g W e f := peImp h fun σ H Q ⟨ρ, G, E, F, st, q⟩ => by
  refine ⟨ρ, G, E, F, st, ?_⟩
  revert q
  cases f E with
  | val d E1 => exact fun q p o F' H' st' gn ow s => q (.ref p) _ H' (st'.freeze gn) (s.trans (Same.new (st'.dj p o upd_same))) (ow.rep (st'.dj p o upd_same))
  | exc c fs E' => exact fun q => q
  | bad => exact fun q => q
end
end FL

namespace FL
open PySem PySem.Spec PyProof.Rows L2

/-! ## statements -/
def fSeq (s t : Nv → R Fl) : Nv → R Fl := fun E => match s E with
  | .val .nx E1 => t E1
  | r => r
def fNx : Nv → R Fl := fun E => .val .nx E
def fBrk : Nv → R Fl := fun E => .val .bk E
def fCnt : Nv → R Fl := fun E => .val .ct E
def fDrop (f : Nv → R D) : Nv → R Fl := fun E => (f E).bind fun _ E1 => .val .nx E1
def fRet (f : Nv → R D) : Nv → R Fl := fun E => (f E).bind fun d E1 => .val (.rt d) E1
def fRetN (f : Nv → R D) : Nv → R Fl := fun E => (f E).bind fun d E1 => .val (.rn d) E1
def fRetO (i : Nat) : Nv → R Fl := fun E => match E[i]? with
  | some (.own d) => .val (.rn d) (E.set i .no)
  | _ => .bad
def fRet0 : Nv → R Fl := fun E => .val (.rt .non) E
def fSet (i : Nat) (f : Nv → R D) : Nv → R Fl := fun E => (f E).bind fun d E1 => .val .nx (E1.set i (.fz d))
def fSetN (i : Nat) (f : Nv → R D) : Nv → R Fl := fun E => (f E).bind fun d E1 => .val .nx (E1.set i (.own d))
def fBad {α : Type} : Nv → R α := fun _ => .bad
section
variable {X : Cx} {g : Gm} {W : WX} {e a b c : Expr} {es : List Expr} {pos : Pos} {st : Stmt} {sts : List Stmt}
theorem fss_nil : FSs X g W [] fNx := pssImp pss_nil fun D σ H ⟨ρ, G, E, F, st, q⟩ => q σ F H st (Same.refl _)
theorem fss_cons {s t : Nv → R Fl} (h : FS X g W st s) (k : FSs X g W sts t) : FSs X g W (st :: sts) (fSeq s t) := pssImp (pss_cons h k) fun D σ H ⟨ρ, G, E, F, st, q⟩ => by
  refine ⟨ρ, G, E, F, st, ?_⟩
  unfold fSeq at q
  revert q
  cases s E with
  | val fl E1 =>
    cases fl with
    | nx => exact fun q σ' F' H' st' ss => ⟨ρ, G, E1, F', st', postS.mono ss q⟩
    | rt d => exact fun q => q
    | rn d => exact fun q => q
    | bk => exact fun q => q
    | ct => exact fun q => q
  | exc c f E1 => exact fun q => q
  | bad => exact fun q => q
theorem fss_one {s : Nv → R Fl} (h : FS X g W st s) : FSs X g W [st] s := pss_one h
theorem fss_never : FSs X g W sts fBad := pssImp pss_never fun D σ H ⟨ρ, G, E, F, st, q⟩ => q
theorem fs_never : FS X g W st fBad := psImp ps_never fun D σ H ⟨ρ, G, E, F, st, q⟩ => q
theorem fs_pass : FS X g W (.Pass pos) fNx := psImp ps_pass fun D σ H ⟨ρ, G, E, F, st, q⟩ => q σ F H st (Same.refl _)
theorem fs_break : FS X g W (.Break pos) fBrk := psImp ps_break fun D σ H ⟨ρ, G, E, F, st, q⟩ => q σ F H st (Same.refl _)
theorem fs_continue : FS X g W (.Continue pos) fCnt := psImp ps_continue fun D σ H ⟨ρ, G, E, F, st, q⟩ => q σ F H st (Same.refl _)
theorem fs_doc {x j pos pos'} : FS X g W (.Expr (.Constant (.str x) j pos) pos') fNx := psImp ps_doc fun D σ H ⟨ρ, G, E, F, st, q⟩ => q σ F H st (Same.refl _)
theorem fs_expr {f : Nv → R D} (h : PS X st (tDrop (tG g W (relD g) f))) : FS X g W st (fDrop f) := psImp h fun D σ H ⟨ρ, G, E, F, st, q⟩ =>
  bindS st q fun d E1 v F1 H1 st1 s1 r1 q1 => q1 σ F1 H1 st1 (Same.refl _)
theorem fs_ret {f : Nv → R D} (h : FE X g W e f) : FS X g W (.Return (some e) pos) (fRet f) := psImp (ps_ret h) fun D σ H ⟨ρ, G, E, F, st, q⟩ =>
  bindS st q fun d E1 v F1 H1 st1 s1 r1 q1 => q1 v σ F1 H1 st1 (Same.refl _) r1
theorem fs_retN {f : Nv → R D} (h : FN X g W e f) : FS X g W (.Return (some e) pos) (fRetN f) := psImp (ps_ret h) fun D σ H ⟨ρ, G, E, F, st, q⟩ =>
  bindNS st q fun d E1 p o F1 H1 st1 n ow s q1 => q1 p o σ F1 H1 st1 n ow (Same.refl _)
theorem fs_retO {i : Nat} (h : PE X e (tVar i)) : FS X g W (.Return (some e) pos) (fRetO i) := psImp (ps_ret h) fun D σ H ⟨ρ, G, E, F, st, q⟩ => by
  unfold fRetO at q
  cases z : E[i]? with
  | none => simp only [z] at q; exact q.elim
  | some s =>
    simp only [z] at q
    cases s with
    | own d =>
      obtain ⟨p, x, _, _, o, hp, _⟩ := st.at z rfl
      obtain ⟨st1, gn, ow⟩ := st.give z rfl x hp
      exact ⟨.ref p, x, q p o σ F H st1 gn ow (Same.refl _)⟩
    | _ => exact q.elim
theorem fs_ret0 : FS X g W (.Return none pos) fRet0 := psImp ps_retN fun D σ H ⟨ρ, G, E, F, st, q⟩ => q .non σ F H st (Same.refl _) rfl
theorem fs_if {t : Nv → R Bool} {sa sb : Nv → R Fl} {la lb : List Stmt} (ht : FT X g W c t) (ha : FSs X g W la sa) (hb : FSs X g W lb sb) : FS X g W (.If c la lb pos) (fIf t sa sb) := psImp (ps_if ht ha hb) fun D σ H ⟨ρ, G, E, F, st, q⟩ =>
  bindS st q fun k E1 c F1 H1 st1 s1 r1 q1 => by
    obtain rfl : k = c := r1
    cases k with
    | true => rw [if_pos rfl]; exact ⟨ρ, G, E1, F1, st1, q1⟩
    | false => rw [if_neg Bool.false_ne_true]; exact ⟨ρ, G, E1, F1, st1, q1⟩
theorem fs_set {i : Nat} {f : Nv → R D} (h : PS X st (tAsg (tG g W (relD g) f) (gName i))) : FS X g W st (fSet i f) := psImp h fun D σ H ⟨ρ, G, E, F, st, q⟩ =>
  bindS st q fun d E1 v F1 H1 st1 s1 r1 q1 => q1 _ F1 H1 (st1.store r1) (Same.refl _)
theorem fs_setN {i : Nat} {f : Nv → R D} (h : PS X st (tAsg (tN g W f) (gName i))) : FS X g W st (fSetN i f) := psImp h fun D σ H ⟨ρ, G, E, F, st, q⟩ =>
  bindNS st q fun d E1 p o F1 H1 st1 n ow s q1 => q1 _ F1 H1 (st1.take n ow) (Same.refl _)
end

/-! ## targets -/
abbrev Bd := D → Nv → Option Nv
def tGt (g : Gm) (b : Bd) : TG := fun v σ H Q => ∃ ρ G E F d, StOk g ρ G E F σ H ∧ Rep g F d v ∧ ∃ E', b d E = some E' ∧ ∀ σ' F' H', StOk g ρ G E' F' σ' H' → Same F F' → Q σ' H'
def bAll : List Bd → List D → Nv → Option Nv
  | [], [], E => some E
  | b :: bs, d :: ds, E => (b d E).bind fun E1 => bAll bs ds E1
  | _, _, _ => none
def tGts (g : Gm) (bs : List Bd) : TGs := fun vs σ H Q => ∃ ρ G E F ds, StOk g ρ G E F σ H ∧ RepL g F ds vs ∧ ∃ E', bAll bs ds E = some E' ∧ ∀ σ' F' H', StOk g ρ G E' F' σ' H' → Same F F' → Q σ' H'
def bName (i : Nat) : Bd := fun d E => some (E.set i (.fz d))
def bTup (bs : List Bd) : Bd := fun d E => match d with
  | .tup ds => bAll bs ds E
  | _ => none
theorem bAll_len : ∀ {bs : List Bd} {ds : List D} {E E' : Nv}, bAll bs ds E = some E' → ds.length = bs.length
  | [], [], _, _, _ => rfl
  | _ :: bs, _ :: ds, _, _, h => by
    unfold bAll at h
    obtain ⟨E1, _, h2⟩ := Option.bind_eq_some_iff.mp h
    simp [bAll_len h2]
  | [], _ :: _, _, _, h => by simp [bAll] at h
  | _ :: _, [], _, _, h => by simp [bAll] at h
section
variable {X : Cx} {g : Gm} {W : WX} {e t : Expr} {es : List Expr} {pos : Pos} {st : Stmt}
theorem pgImp {r r' : TG} (h : PG X t r) (i : ∀ v σ H Q, r' v σ H Q → r v σ H Q) : PG X t r' := ⟨fun pins s σ H v u Q I rv q => h.run pins s σ H v u Q I rv (i v σ H Q q)⟩
theorem pgsImp {r r' : TGs} (h : PGs X es r) (i : ∀ v σ H Q, r' v σ H Q → r v σ H Q) : PGs X es r' := ⟨fun pins s σ H v u Q I rv q => h.run pins s σ H v u Q I rv (i v σ H Q q)⟩
theorem fg_name {i : Nat} (h : PG X t (gName i)) : PG X t (tGt g (bName i)) := pgImp h fun v σ H Q ⟨ρ, G, E, F, d, st, r, E', e, q⟩ => by
  cases e
  exact q _ F H (st.store r) (Same.refl _)
theorem fgs_nil : PGs X [] (tGts g []) := pgsImp pgs_nil fun vs σ H Q ⟨ρ, G, E, F, ds, st, r, E', e, q⟩ => by
  cases ds with
  | nil => cases e; exact ⟨r, q σ F H st (Same.refl _)⟩
  | cons d ds => cases e
theorem fgs_cons {b : Bd} {bs : List Bd} (h : PG X e (tGt g b)) (k : PGs X es (tGts g bs)) (hs : (assignEach (e :: es) X.env).map (·.2) = assign e X.env :: (assignEach es X.env).map (·.2) := by rfl) : PGs X (e :: es) (tGts g (b :: bs)) :=
  pgsImp (pgs_cons h k hs) fun vs σ H Q ⟨ρ, G, E, F, ds, st, r, E', e, q⟩ => by
    cases ds with
    | nil => cases e
    | cons d ds =>
      obtain ⟨x, xs, rfl, r1, r2⟩ := r
      obtain ⟨E1, e1, e2⟩ := Option.bind_eq_some_iff.mp e
      exact ⟨x, xs, rfl, ρ, G, E, F, d, st, r1, E1, e1, fun σ1 F1 H1 st1 s1 => ⟨ρ, G, E1, F1, ds, st1, r2.mono s1, E', e2, fun σ' F' H' st' s' => q σ' F' H' st' (s1.trans s')⟩⟩
theorem fg_tup {bs : List Bd} {k : Nat} (hc : X.calm = true) (h : PGs X es (tGts g bs)) (hK : X.K = g.K) (hn : (assignEach es X.env).length = bs.length := by rfl) (hst : (assignEach es X.env).findIdx? (·.1) = none := by rfl) : PG X (.Tuple es k pos) (tGt g (bTup bs)) :=
  pgImp (pg_tup hc h hn hst) fun v σ H Q ⟨ρ, G, E, F, d, st, r, E', e, q⟩ => by
    cases d with
    | tup ds =>
      obtain ⟨a, xs, rfl, rx, rl⟩ := r
      refine ⟨a, xs, rfl, by rw [hK]; exact same_t st.sf rx, ?_, ρ, G, E, F, ds, st, rl, E', e, q⟩
      rw [← rl.length]; exact bAll_len e
    | _ => cases e
def fAsg (f : Nv → R D) (b : Bd) : Nv → R Fl := fun E => (f E).bind fun d E1 => match b d E1 with
  | some E2 => .val .nx E2
  | none => .bad
theorem fs_asg {f : Nv → R D} {b : Bd} (h : PS X st (tAsg (tG g W (relD g) f) (tGt g b))) : FS X g W st (fAsg f b) := psImp h fun D σ H ⟨ρ, G, E, F, st, q⟩ =>
  bindS st q fun d E1 v F1 H1 st1 s1 r1 q1 => by
    cases z : b d E1 with
    | none => simp only [z] at q1; exact q1.elim
    | some E2 =>
      simp only [z] at q1
      exact ⟨ρ, G, E1, F1, d, st1, r1, E2, z, q1⟩
/-- a, b = x, y -/
def fPar (i j : Nat) (f h : Nv → R D) : Nv → R Fl := fun E => (f E).bind fun d E1 => (h E1).bind fun e E2 => .val .nx ((E2.set i (.fz d)).set j (.fz e))
theorem fs_par {i j : Nat} {f h : Nv → R D} (k : PS X st (tPar i j (tCons (tG g W (relD g) f) (tCons (tG g W (relD g) h) tNil)))) : FS X g W st (fPar i j f h) := psImp k fun D σ H ⟨ρ, G, E, F, st, q⟩ =>
  bindS st q fun d E1 v F1 H1 st1 s1 r1 q1 => bindS st1 q1 fun e E2 u F2 H2 st2 s2 r2 q2 =>
    ⟨v, u, rfl, q2 _ F2 H2 ((st2.store (r1.mono s2)).store r2) (Same.refl _)⟩
def fParNE (i j : Nat) (f h : Nv → R D) : Nv → R Fl := fun E => (f E).bind fun d E1 => (h E1).bind fun e E2 => .val .nx ((E2.set i (.own d)).set j (.fz e))
theorem fs_parNE {i j : Nat} {f h : Nv → R D} (k : PS X st (tPar i j (tCons (tN g W f) (tCons (tG g W (relD g) h) tNil)))) : FS X g W st (fParNE i j f h) := psImp k fun D σ H ⟨ρ, G, E, F, st, q⟩ =>
  bindNS st q fun d E1 p o F1 H1 st1 gn ow s1 q1 => by
    refine ⟨ρ, _, E1, F1, st1, ?_⟩
    revert q1
    cases h E1 with
    | val e E2 => exact fun q1 u F2 H2 st2 s2 r2 => ⟨.ref p, u, rfl, q1 _ F2 H2 ((st2.take gn (ow.mono s2)).store r2) s2⟩
    | exc c fs E' => exact fun q1 dx F' H' st' s x => q1 dx σ F' H' (st'.untemp gn) s x
    | bad => exact fun q1 => q1
def fParEN (i j : Nat) (f h : Nv → R D) : Nv → R Fl := fun E => (f E).bind fun d E1 => (h E1).bind fun e E2 => .val .nx ((E2.set i (.fz d)).set j (.own e))
theorem fs_parEN {i j : Nat} {f h : Nv → R D} (k : PS X st (tPar i j (tCons (tG g W (relD g) f) (tCons (tN g W h) tNil)))) : FS X g W st (fParEN i j f h) := psImp k fun D σ H ⟨ρ, G, E, F, st, q⟩ =>
  bindS st q fun d E1 v F1 H1 st1 s1 r1 q1 => bindNS st1 q1 fun e E2 p o F2 H2 st2 gn ow s2 q2 =>
    ⟨v, .ref p, rfl, q2 _ F2 H2 ((st2.store (r1.mono s2)).take gn ow) (Same.refl _)⟩
def fParNN (i j : Nat) (f h : Nv → R D) : Nv → R Fl := fun E => (f E).bind fun d E1 => (h E1).bind fun e E2 => .val .nx ((E2.set i (.own d)).set j (.own e))
theorem fs_parNN {i j : Nat} {f h : Nv → R D} (k : PS X st (tPar i j (tCons (tN g W f) (tCons (tN g W h) tNil)))) : FS X g W st (fParNN i j f h) := psImp k fun D σ H ⟨ρ, G, E, F, st, q⟩ =>
  bindNS st q fun d E1 p o F1 H1 st1 gn ow s1 q1 => by
    refine ⟨ρ, _, E1, F1, st1, ?_⟩
    revert q1
    cases h E1 with
    | val e E2 =>
      refine fun q1 p2 o2 F2 H2 st2 gn2 ow2 s2 => ⟨.ref p, .ref p2, rfl, q1 _ F2 H2 ?_ s2⟩
      have ne : p2 ≠ p := fun z => by rw [z, upd_same] at gn2; cases gn2
      have comm : upd (upd G p o) p2 o2 = upd (upd G p2 o2) p o := by
        funext b
        unfold upd
        by_cases h1 : b = p <;> by_cases h2 : b = p2
        · exact absurd (h2.symm.trans h1) ne
        · rw [if_neg h2, if_pos h1, if_pos h1]
        · rw [if_pos h2, if_neg h1, if_pos h2]
        · rw [if_neg h2, if_neg h1, if_neg h1, if_neg h2]
      rw [comm] at st2
      have g2 : G p2 = none := by rw [upd_ne ne] at gn2; exact gn2
      exact (st2.take (by rw [upd_ne (Ne.symm ne)]; exact gn) (ow.mono s2)).take g2 ow2
    | exc c fs E' => exact fun q1 dx F' H' st' s x => q1 dx σ F' H' (st'.untemp gn) s x
    | bad => exact fun q1 => q1
end

/-! ## an owned list, written -/
def setIx (j : Nat) (d k : D) (E : Nv) : R Fl := match E[j]? with
  | some s => match s.cell, k with
    | some (.lst ds), .int i => match ixN ds.length i with
      | some m => .val .nx (E.set j (s.put (.lst (ds.set m d))))
      | none => .bad
    | _, _ => .bad
  | none => .bad
def fSetIx (j : Nat) (fi f : Nv → R D) : Nv → R Fl := fun E => (f E).bind fun d E1 => (fPk j E1).bind fun _ E2 => (fi E2).bind fun k E3 => setIx j d k E3
/-- a method of an owned slot's object: its content and the operands to its answer and the new content -/
def MtOk (g : Gm) (r : V → List V → Hp → VK → Prop) (o : D → List D → Option (D × D)) : Prop := ∀ (F H : Hp) (p : Addr) (ob : HO) (vs : List V) (d z d' : D) (ds : List D) (Q : VK), Same F H → F p = none → H p = some ob → OwnO g F d ob → RepL g F ds vs → o d ds = some (z, d') →
  (∀ w ob', OwnO g F d' ob' → Rep g F z w → Q w (upd H p ob')) → r (.ref p) vs H Q
def isLst : D → Bool
  | .lst _ => true
  | _ => false
def resMt (j : Nat) (o : D → List D → Option (D × D)) (as : List Ar) (E : Nv) : R D := match valsOf as with
  | none => .bad
  | some ds => match E[j]? with
    | none => .bad
    | some s => match s.cell with
      | none => .bad
      | some c => match o c ds with
        | none => .bad
        | some zc => .val zc.1 (E.set j (s.put zc.2))
def fMt (j : Nat) (o : D → List D → Option (D × D)) (fs : Nv → R (List Ar)) : Nv → R D := fun E => (fPk j E).bind fun _ E1 => match Ar.get E1 (.pk j) with
  | none => .bad
  | some c => if isLst c = true then (fs E1).bind fun as E2 => resMt j o as E2 else .bad
section
variable {X : Cx} {g : Gm} {W : WX} {e t : Expr} {es : List Expr} {pos : Pos} {st : Stmt}
theorem fPk_pk {j : Nat} {E E1 : Nv} {a : Ar} (h : fPk j E = .val a E1) : a = .pk j ∧ E1 = E := by
  unfold fPk at h
  split at h
  · split at h
    · cases h; exact ⟨rfl, rfl⟩
    · cases h
  · cases h
theorem fs_setIx {j : Nat} {fi f : Nv → R D} (h : PS X st (tAsg (tG g W (relD g) f) (gSub (tG g W (relA g) (fPk j)) (tG g W (relD g) fi) rSetL))) : FS X g W st (fSetIx j fi f) := psImp h fun D σ H ⟨ρ, G, E, F, st, q⟩ =>
  bindS st q fun d E1 v F1 H1 st1 s1 r1 q1 => by
    have pk : ∀ a E', fPk j E1 = .val a E' → a = .pk j := fun a E' z => (fPk_pk z).1
    refine ⟨ρ, G, E1, F1, st1, ?_⟩
    revert q1
    cases z : fPk j E1 with
    | exc c fs E' => exact fun q1 dx F' H' st' s x => q1 dx σ F' H' st' s x
    | bad => exact fun q1 => q1
    | val a E2 =>
      obtain ⟨rfl, rfl⟩ := fPk_pk z
      intro q1 x F2 H2 st2 s2 hx
      have hx : σ[j]? = some (some x) := hx
      refine bindS st2 (postS.mono s2 q1) fun k E3 iv F3 H3 st3 s3 r3 q3 => ?_
      unfold setIx at q3
      cases z : E3[j]? with
      | none => simp only [z] at q3; exact q3.elim
      | some s =>
        simp only [z] at q3
        cases c : s.cell with
        | none => simp only [c] at q3; exact q3.elim
        | some cd =>
          simp only [c] at q3
          cases cd with
          | lst ds =>
            cases k with
            | int i =>
              simp only at q3
              cases m : ixN ds.length i with
              | none => simp only [m] at q3; exact q3.elim
              | some mm =>
                simp only [m] at q3
                obtain ⟨p, y, fp, _, o, hp, xs, e0, rl⟩ := st3.at z c
                subst e0
                rw [hx] at y
                cases y
                obtain rfl : iv = .int i := r3
                exact ⟨p, xs, i, mm, rfl, rfl, hp, by rw [← rl.length]; exact m, q3 σ F3 _ (st3.write z c hx ⟨_, rfl, rl.set (r1.mono (s2.trans s3))⟩) (Same.refl _)⟩
            | _ => exact q3.elim
          | _ => exact q3.elim
theorem fe_mt {j : Nat} {r : V → List V → Hp → VK → Prop} {o : D → List D → Option (D × D)} {fs : Nv → R (List Ar)} (hr : MtOk g r o) (h : PE X e (tBM X.K "list" r (tG g W (relA g) (fPk j)) (tG g W (relAs g) fs))) : FE X g W e (fMt j o fs) :=
  peImp h fun σ H Q ⟨ρ, G, E, F, st, q⟩ => by
    refine ⟨ρ, G, E, F, st, ?_⟩
    unfold fMt at q
    revert q
    cases z : fPk j E with
    | exc c fs E' => exact fun q => q
    | bad => exact fun q => q
    | val a E1 =>
      obtain ⟨rfl, rfl⟩ := fPk_pk z
      intro q x F1 H1 st1 s1 hx
      have q : post g W (relD g) ρ G F σ Q (match Ar.get E1 (.pk j) with
        | none => .bad
        | some c => if isLst c = true then (fs E1).bind fun as E2 => resMt j o as E2 else .bad) := q
      cases z1 : Ar.get E1 (.pk j) with
      | none => simp only [z1] at q; exact q.elim
      | some c =>
        simp only [z1] at q
        have rh := ar_ok st1 (show ArOk g F1 σ (.pk j) x from hx) z1
        by_cases hc : isLst c = true
        · rw [if_pos hc] at q
          cases c with
          | lst ds =>
            obtain ⟨p, xs, rfl, hp, _⟩ := rh.lst st1.sf
            refine ⟨.inl ⟨rfl, xs, .of hp⟩, bindE st1 (post.mono s1 q) fun as E2 vs F2 H2 st2 s2 r2 q2 => ?_⟩
            unfold resMt at q2
            cases z2 : valsOf as with
            | none => simp only [z2] at q2; exact q2.elim
            | some es =>
              simp only [z2] at q2
              cases z3 : E2[j]? with
              | none => simp only [z3] at q2; exact q2.elim
              | some s =>
                simp only [z3] at q2
                cases z4 : s.cell with
                | none => simp only [z4] at q2; exact q2.elim
                | some c2 =>
                  simp only [z4] at q2
                  cases z5 : o c2 es with
                  | none => simp only [z5] at q2; exact q2.elim
                  | some zc =>
                    simp only [z5] at q2
                    obtain ⟨zz, c'⟩ := zc
                    obtain ⟨p2, y, fp, _, ob, hp2, ow⟩ := st2.at z3 z4
                    have hx' : σ[j]? = some (some (.ref p)) := hx
                    rw [hx'] at y
                    cases y
                    exact hr F2 H2 p ob vs c2 zz c' es Q st2.sf fp hp2 ow (valsOf_ok r2 z2) z5 fun w ob' ow' rw' => q2 w F2 _ (st2.write z3 z4 hx' ow') (Same.refl _) rw'
          | _ => simp [isLst] at hc
        · rw [if_neg hc] at q
          exact q.elim
end

/-! ## loops -/
structure Walks (g : Gm) (F : Hp) (J : It) (ds : List D) : Prop where
  goes : ∀ i H F2, Same F F2 → Same F2 H → i < ds.length → J.go i H
  stops : ∀ H F2, Same F F2 → Same F2 H → J.stop ds.length H
  yields : ∀ i H F2 x H', Same F F2 → Same F2 H → i < ds.length → J.yld i H x H' → ∃ d F3, ds[i]? = some d ∧ Grow g F2 H F3 H' ∧ Rep g F3 d x
def postI (g : Gm) (W : WX) (ρ : Nat → Addr) (G F : Hp) (σ : L2.St) (Q : It → Hp → Prop) : R (List D) → Prop
  | .val ds E' => ∀ J F' H', StOk g ρ G E' F' σ H' → Same F F' → Walks g F' J ds → Q J H'
  | .exc c fs E' => postX g W ρ G F σ c fs E'
  | .bad => False
def tI (g : Gm) (W : WX) (f : Nv → R (List D)) : TI := fun σ H Q => ∃ ρ G E F, StOk g ρ G E F σ H ∧ postI g W ρ G F σ Q (f E)
abbrev FI (X : Cx) (g : Gm) (W : WX) (tg e : Expr) (f : Nv → R (List D)) : Prop := PI X tg e (tI g W f)
def forL (b : Bd) (s : Nv → R Fl) : List D → Nv → R Fl
  | [], E => .val .nx E
  | d :: ds, E => match b d E with
    | none => .bad
    | some E1 => match s E1 with
      | .val .nx E2 => forL b s ds E2
      | .val .ct E2 => forL b s ds E2
      | .val .bk E2 => .val .nx E2
      | .val (.rt x) E2 => .val (.rt x) E2
      | .val (.rn x) E2 => .val (.rn x) E2
      | .exc c f E2 => .exc c f E2
      | .bad => .bad
def fFor (fi : Nv → R (List D)) (b : Bd) (s : Nv → R Fl) : Nv → R Fl := fun E => (fi E).bind fun ds E1 => forL b s ds E1
def whileN (t : Nv → R Bool) (s : Nv → R Fl) : Nat → Nv → R Fl
  | 0, _ => .bad
  | n + 1, E => (t E).bind fun k E1 => if k = true then (match s E1 with
      | .val .nx E2 => whileN t s n E2
      | .val .ct E2 => whileN t s n E2
      | .val .bk E2 => .val .nx E2
      | .val (.rt x) E2 => .val (.rt x) E2
      | .val (.rn x) E2 => .val (.rn x) E2
      | .exc c f E2 => .exc c f E2
      | .bad => .bad) else .val .nx E1
section
variable {X : Cx} {g : Gm} {W : WX} {e t : Expr} {es : List Expr} {pos : Pos} {st : Stmt}
theorem piImp {tg e : Expr} {r r' : TI} (h : PI X tg e r) (i : ∀ σ H Q, r' σ H Q → r σ H Q) : PI X tg e r' := ⟨fun pins s σ H Q I q => h.run pins s σ H Q I (i σ H Q q)⟩
theorem fs_for {fi : Nv → R (List D)} {b : Bd} {s : Nv → R Fl} (h : PS X st (tFor (tI g W fi) (tGt g b) (tS g W s))) : FS X g W st (fFor fi b s) := psImp h fun D σ H ⟨ρ, G, E, F, st, q⟩ => by
  refine ⟨ρ, G, E, F, st, ?_⟩
  unfold fFor at q
  revert q
  cases fi E with
  | exc c fs E' => exact fun q dx F' H' st' s x => q dx σ F' H' st' s x
  | bad => exact fun q => q
  | val ds E1 =>
    intro q J F1 H1 st1 s1 w
    have q : postS g W ρ G F D (forL b s ds E1) := q
    refine ⟨fun i m σ H => i ≤ ds.length ∧ m = ds.length - i ∧ ∃ F2 E2, StOk g ρ G E2 F2 σ H ∧ Same F1 F2 ∧ postS g W ρ G F2 D (forL b s (ds.drop i) E2), ⟨_, Nat.zero_le _, rfl, F1, E1, st1, Same.refl _, postS.mono s1 (by simpa using q)⟩, ?_⟩
    rintro i m σ2 H2 ⟨hi, rfl, F2, E2, st2, s2, q2⟩
    by_cases hlt : i < ds.length
    · refine .inr ⟨w.goes i H2 F2 s2 st2.sf hlt, fun σ' H' => i + 1 ≤ ds.length ∧ ∃ F2 E2, StOk g ρ G E2 F2 σ' H' ∧ Same F1 F2 ∧ postS g W ρ G F2 D (forL b s (ds.drop (i + 1)) E2), fun σ' H' ⟨a, r⟩ => ⟨ds.length - (i + 1), by omega, a, rfl, r⟩, fun x H3 y => ?_⟩
      obtain ⟨d, F3, hd, gr, r⟩ := w.yields i H2 F2 x H3 s2 st2.sf hlt y
      have hdrop : ds.drop i = d :: ds.drop (i + 1) := by
        rw [List.drop_eq_getElem_cons hlt]
        rw [List.getElem?_eq_getElem hlt] at hd
        rw [Option.some.inj hd]
      rw [hdrop] at q2
      unfold forL at q2
      cases z : b d E2 with
      | none => simp only [z] at q2; exact q2.elim
      | some E3 =>
        simp only [z] at q2
        refine ⟨ρ, G, E2, F3, d, gr.2 _ _ _ _ st2, r, E3, z, fun σ4 F4 H4 st4 s4 => ⟨ρ, G, E3, F4, st4, ?_⟩⟩
        have q3 := postS.mono (gr.1.trans s4) q2
        have s14 : Same F1 F4 := s2.trans (gr.1.trans s4)
        revert q3
        cases s E3 with
        | exc c f E5 => exact fun q => q
        | bad => exact fun q => q
        | val fl E5 =>
          cases fl with
          | nx => exact fun q σ5 F5 H5 st5 s5 => ⟨hlt, F5, E5, st5, s14.trans s5, postS.mono s5 q⟩
          | ct => exact fun q σ5 F5 H5 st5 s5 => ⟨hlt, F5, E5, st5, s14.trans s5, postS.mono s5 q⟩
          | bk => exact fun q => q
          | rt x => exact fun q => q
          | rn x => exact fun q => q
    · have e : i = ds.length := by omega
      subst e
      rw [List.drop_length] at q2
      exact .inl ⟨w.stops H2 F2 s2 st2.sf, q2 σ2 F2 H2 st2 (Same.refl _)⟩
theorem fs_while {ft : Nv → R Bool} {s : Nv → R Fl} (n : Nat) (h : PS X st (tWhile (tG g W relB ft) (tS g W s))) : FS X g W st (whileN ft s n) := psImp h fun D σ H ⟨ρ, G, E, F, st, q⟩ => by
  refine ⟨fun m σ H => ∃ E F, StOk g ρ G E F σ H ∧ postS g W ρ G F D (whileN ft s m E), ⟨n, E, F, st, q⟩, ?_⟩
  rintro m σ2 H2 ⟨E2, F2, st2, q2⟩
  cases m with
  | zero => exact q2.elim
  | succ m =>
    refine bindS st2 q2 fun k E3 c F3 H3 st3 s3 r3 q3 => ?_
    obtain rfl : k = c := r3
    cases k with
    | false => rw [if_neg Bool.false_ne_true]; exact q3 σ2 F3 H3 st3 (Same.refl _)
    | true =>
      rw [if_pos rfl]
      refine ⟨fun σ' H' => ∃ E F, StOk g ρ G E F σ' H' ∧ postS g W ρ G F D (whileN ft s m E), fun σ' H' r => ⟨m, Nat.lt_succ_self _, r⟩, ρ, G, E3, F3, st3, ?_⟩
      rw [if_pos rfl] at q3
      revert q3
      cases s E3 with
      | exc c f E5 => exact fun q => q
      | bad => exact fun q => q
      | val fl E5 =>
        cases fl with
        | nx => exact fun q σ5 F5 H5 st5 s5 => ⟨E5, F5, st5, postS.mono s5 q⟩
        | ct => exact fun q σ5 F5 H5 st5 s5 => ⟨E5, F5, st5, postS.mono s5 q⟩
        | bk => exact fun q => q
        | rt x => exact fun q => q
        | rn x => exact fun q => q
end

/-! ## comprehensions -/
def wipeE (E : Nv) : List Nat → Nv
  | [] => E
  | v :: vs => (wipeE E vs).set v .no
def keepF : Option Sl → Sl
  | some (.fz d) => .fz d
  | _ => .no
/-- behind the block: E2, but the block's names as they were in E1 -/
def restoreE (E1 E2 : Nv) : List Nat → Nv
  | [] => E2
  | v :: vs => (restoreE E1 E2 vs).set v (keepF E1[v]?)
def R.nox {α : Type} : R α → R α
  | .exc _ _ _ => .bad
  | r => r
def lcL (b : Bd) (t : Nv → R Bool) (f : Nv → R D) (vs : List Nat) : List D → List D → Nv → R (List D)
  | [], acc, E => .val acc E
  | d :: ds, acc, E => match b d E with
    | none => .bad
    | some E1 => (t E1).nox.bind fun k E2 => if k = true then (f E2).nox.bind fun x E3 => if acc.length < sizeLine then lcL b t f vs ds (acc ++ [x]) (wipeE E3 vs) else .bad else lcL b t f vs ds acc (wipeE E2 vs)
def fLc (fi : Nv → R (List D)) (b : Bd) (t : Nv → R Bool) (f : Nv → R D) (vs : List Nat) : Nv → R D := fun E => (fi E).bind fun ds E1 => (lcL b t f vs ds [] (wipeE E1 vs)).bind fun xs E2 => .val (.lst xs) (restoreE E1 E2 vs)
def tYesF : Nv → R Bool := fun E => .val true E
/-- nothing leaves -/
def W0 : WX := fun _ _ _ _ => False
theorem wipeE_length (E : Nv) : ∀ vs : List Nat, (wipeE E vs).length = E.length
  | [] => rfl
  | v :: vs => by unfold wipeE; rw [List.length_set, wipeE_length E vs]
theorem restoreE_length (E1 E2 : Nv) : ∀ vs : List Nat, (restoreE E1 E2 vs).length = E2.length
  | [] => rfl
  | v :: vs => by unfold restoreE; rw [List.length_set, restoreE_length E1 E2 vs]
theorem wipeE_get {E : Nv} {i : Nat} {s : Sl} : ∀ {vs : List Nat}, (wipeE E vs)[i]? = some s → (E[i]? = some s ∧ i ∉ vs) ∨ s = .no
  | [], h => .inl ⟨h, by simp⟩
  | v :: vs, h => by
    unfold wipeE at h
    by_cases hi : v = i
    · subst hi
      have hv := (List.getElem?_eq_some_iff.mp h).1
      rw [List.length_set] at hv
      rw [List.getElem?_set_self hv] at h
      exact .inr (Option.some.inj h).symm
    · rw [List.getElem?_set_ne hi] at h
      rcases wipeE_get h with ⟨a, b⟩ | a
      · exact .inl ⟨a, by simp only [List.mem_cons, not_or]; exact ⟨fun e => hi e.symm, b⟩⟩
      · exact .inr a
theorem restoreE_get {E1 E2 : Nv} {i : Nat} {s : Sl} : ∀ {vs : List Nat}, (restoreE E1 E2 vs)[i]? = some s → (E2[i]? = some s ∧ i ∉ vs) ∨ s = keepF E1[i]?
  | [], h => .inl ⟨h, by simp⟩
  | v :: vs, h => by
    unfold restoreE at h
    by_cases hi : v = i
    · subst hi
      have hv := (List.getElem?_eq_some_iff.mp h).1
      rw [List.length_set] at hv
      rw [List.getElem?_set_self hv] at h
      exact .inr (Option.some.inj h).symm
    · rw [List.getElem?_set_ne hi] at h
      rcases restoreE_get h with ⟨a, b⟩ | a
      · exact .inl ⟨a, by simp only [List.mem_cons, not_or]; exact ⟨fun e => hi e.symm, b⟩⟩
      · exact .inr a
theorem wipe_other {σ : L2.St} {i : Nat} : ∀ {vs : List Nat}, i ∉ vs → (wipe σ vs)[i]? = σ[i]?
  | [], _ => rfl
  | v :: vs, h => by
    unfold wipe
    simp only [List.mem_cons, not_or] at h
    rw [List.getElem?_set_ne (fun e => h.1 e.symm)]
    exact wipe_other h.2
section
variable {X : Cx} {g : Gm} {W : WX} {e t : Expr} {es : List Expr} {pos : Pos} {st : Stmt} {ρ : Nat → Addr} {G F H : Hp} {E : Nv} {σ : L2.St}
theorem StOk.wiped (st : StOk g ρ G E F σ H) (vs : List Nat) : StOk g ρ G (wipeE E vs) F (wipe σ vs) H := st.reslot (by rw [wipeE_length, wipe_length]; exact st.len) fun i s h => by
  rcases wipeE_get h with ⟨a, b⟩ | a
  · exact .inl ⟨a, wipe_other b⟩
  · exact .inr (.inl a)
/-- only the block's names changed -/
theorem StOk.wiped2 {σ2 : L2.St} (st : StOk g ρ G E F σ2 H) (vs : List Nat) (h : wipe σ2 vs = wipe σ vs) : StOk g ρ G (wipeE E vs) F (wipe σ vs) H := by
  rw [← h]; exact st.wiped vs
theorem StOk.restored {vs : List Nat} {E1 : Nv} {F1 G1 H1 : Hp} (st : StOk g ρ G E F (wipe σ vs) H) (st1 : StOk g ρ G1 E1 F1 σ H1) (sm : Same F1 F) : StOk g ρ G (restoreE E1 E vs) F σ H := st.reslot (by rw [restoreE_length, st.len, wipe_length]) fun i s h => by
  rcases restoreE_get h with ⟨a, b⟩ | a
  · exact .inl ⟨a, (wipe_other b).symm⟩
  · cases z : E1[i]? with
    | none => rw [z] at a; exact .inr (.inl a)
    | some u =>
      rw [z] at a
      cases u with
      | fz d =>
        obtain ⟨v, x, r⟩ := st1.fz i d z
        exact .inr (.inr ⟨d, v, a, x, r.mono sm⟩)
      | _ => exact .inr (.inl a)
/-- a target that changes the slots vs alone -/
def tGv (g : Gm) (vs : List Nat) (b : Bd) : TG := fun v σ H Q => ∃ ρ G E F d, StOk g ρ G E F σ H ∧ Rep g F d v ∧ ∃ E', b d E = some E' ∧ ∀ σ' F' H', StOk g ρ G E' F' σ' H' → Same F F' → wipe σ' vs = wipe σ vs → Q σ' H'
def tGvs (g : Gm) (vs : List Nat) (bs : List Bd) : TGs := fun ws σ H Q => ∃ ρ G E F ds, StOk g ρ G E F σ H ∧ RepL g F ds ws ∧ ∃ E', bAll bs ds E = some E' ∧ ∀ σ' F' H', StOk g ρ G E' F' σ' H' → Same F F' → wipe σ' vs = wipe σ vs → Q σ' H'
theorem wipe_get_in {σ : L2.St} {i : Nat} : ∀ {vs : List Nat}, i ∈ vs → i < σ.length → (wipe σ vs)[i]? = some none
  | v :: vs, h, hl => by
    unfold wipe
    by_cases e : v = i
    · subst e
      rw [List.getElem?_set_self (by rw [wipe_length]; exact hl)]
    · rw [List.getElem?_set_ne e]
      rcases List.mem_cons.mp h with z | z
      · exact absurd z.symm e
      · exact wipe_get_in z hl
theorem wipe_ext {σ σ' : L2.St} {vs : List Nat} (hl : σ'.length = σ.length) (h : ∀ i, i ∉ vs → σ'[i]? = σ[i]?) : wipe σ' vs = wipe σ vs := by
  apply List.ext_getElem?
  intro i
  by_cases hi : i ∈ vs
  · by_cases hlt : i < σ.length
    · rw [wipe_get_in hi hlt, wipe_get_in hi (by omega)]
    · rw [List.getElem?_eq_none (by rw [wipe_length]; omega), List.getElem?_eq_none (by rw [wipe_length]; omega)]
  · rw [wipe_other hi, wipe_other hi]
    exact h i hi
theorem wipe_set {σ : L2.St} {vs : List Nat} {i : Nat} {x : Option V} (h : i ∈ vs) : wipe (σ.set i x) vs = wipe σ vs :=
  wipe_ext (by simp) fun j hj => List.getElem?_set_ne fun e => hj (by rw [← e]; exact h)
theorem wipe_wipe {σ : L2.St} {vs : List Nat} : wipe (wipe σ vs) vs = wipe σ vs := wipe_ext (wipe_length _ _) fun _ hj => wipe_other hj
theorem fgv_name {i : Nat} {vs : List Nat} (hi : i ∈ vs) (h : PG X t (gName i)) : PG X t (tGv g vs (bName i)) := pgImp h fun v σ H Q ⟨ρ, G, E, F, d, st, r, E', e, q⟩ => by
  cases e
  exact q _ F H (st.store r) (Same.refl _) (wipe_set hi)
theorem fgvs_nil {vs : List Nat} : PGs X [] (tGvs g vs []) := pgsImp pgs_nil fun ws σ H Q ⟨ρ, G, E, F, ds, st, r, E', e, q⟩ => by
  cases ds with
  | nil => cases e; exact ⟨r, q σ F H st (Same.refl _) rfl⟩
  | cons d ds => cases e
theorem fgvs_cons {b : Bd} {bs : List Bd} {vs : List Nat} (h : PG X e (tGv g vs b)) (k : PGs X es (tGvs g vs bs)) (hs : (assignEach (e :: es) X.env).map (·.2) = assign e X.env :: (assignEach es X.env).map (·.2) := by rfl) : PGs X (e :: es) (tGvs g vs (b :: bs)) :=
  pgsImp (pgs_cons h k hs) fun ws σ H Q ⟨ρ, G, E, F, ds, st, r, E', e, q⟩ => by
    cases ds with
    | nil => cases e
    | cons d ds =>
      obtain ⟨x, xs, rfl, r1, r2⟩ := r
      obtain ⟨E1, e1, e2⟩ := Option.bind_eq_some_iff.mp e
      exact ⟨x, xs, rfl, ρ, G, E, F, d, st, r1, E1, e1, fun σ1 F1 H1 st1 s1 w1 => ⟨ρ, G, E1, F1, ds, st1, r2.mono s1, E', e2, fun σ' F' H' st' s' w' => q σ' F' H' st' (s1.trans s') (w'.trans w1)⟩⟩
theorem fgv_tup {bs : List Bd} {vs : List Nat} {k : Nat} (hc : X.calm = true) (h : PGs X es (tGvs g vs bs)) (hK : X.K = g.K) (hn : (assignEach es X.env).length = bs.length := by rfl) (hst : (assignEach es X.env).findIdx? (·.1) = none := by rfl) : PG X (.Tuple es k pos) (tGv g vs (bTup bs)) :=
  pgImp (pg_tup hc h hn hst) fun v σ H Q ⟨ρ, G, E, F, d, st, r, E', e, q⟩ => by
    cases d with
    | tup ds =>
      obtain ⟨a, xs, rfl, rx, rl⟩ := r
      refine ⟨a, xs, rfl, by rw [hK]; exact same_t st.sf rx, ?_, ρ, G, E, F, ds, st, rl, E', e, q⟩
      rw [← rl.length]; exact bAll_len e
    | _ => cases e
theorem noxE {α β γ : Type} {rel : Hp → L2.St → α → β → Prop} {f : Nv → R α} {k : α → Nv → R γ} {Q1 : β → Hp → Prop} (P : R γ → Prop) (h : P ((f E).nox.bind k)) (hb : ¬ P .bad) (st : StOk g ρ G E F σ H)
    (cont : ∀ a E1 b F1 H1, StOk g ρ G E1 F1 σ H1 → Same F F1 → rel F1 σ a b → P (k a E1) → Q1 b H1) : tG g W0 rel f σ H Q1 := by
  refine ⟨ρ, G, E, F, st, ?_⟩
  revert h
  cases f E with
  | val a E1 => exact fun h b F1 H1 st1 s1 r1 => cont a E1 b F1 H1 st1 s1 r1 h
  | exc c fs E' => exact fun h => absurd h hb
  | bad => exact fun h => absurd h hb
abbrev FTs (X : Cx) (g : Gm) (W : WX) (ifs : List Expr) (f : Nv → R Bool) : Prop := PTs X ifs (tG g W relB f)
theorem fts_nil : FTs X g W [] tYesF := ⟨fun pins s σ H Q I ⟨ρ, G, E, F, st, q⟩ => pts_nil.run pins s σ H Q I (q true F H st (Same.refl _) rfl)⟩
theorem fts_one {f : Nv → R Bool} (h : FT X g W e f) : FTs X g W [e] f := pts_one h
/-- what the walk of a comprehension asks -/
theorem le_lc {fi : Nv → R (List D)} {b : Bd} {tf : Nv → R Bool} {f : Nv → R D} {vs : List Nat} {σ : L2.St} {H : Hp} {Q : VK} (h : tN g W (fLc fi b tf f vs) σ H Q) : tLc (tI g W fi) (tGv g vs b) (tG g W0 relB tf) (tG g W0 (relD g) f) vs σ H Q := by
  obtain ⟨ρ, G, E, F, st, q⟩ := h
  refine ⟨ρ, G, E, F, st, ?_⟩
  unfold fLc at q
  revert q
  cases fi E with
  | exc c fs E' => exact fun q => q
  | bad => exact fun q => q
  | val ds E1 =>
    intro q J F1 H1 st1 s1 w D hD
    have q : postN g W ρ G F σ Q ((lcL b tf f vs ds [] (wipeE E1 vs)).bind fun xs E2 => .val (.lst xs) (restoreE E1 E2 vs)) := q
    have gD := st1.fG hD
    refine ⟨fun i m H => i ≤ ds.length ∧ m = ds.length - i ∧ ∃ F2 E2 acc xs, StOk g ρ (upd G D (.lst xs)) E2 F2 (wipe σ vs) H ∧ RepL g F2 acc xs ∧ Same F1 F2 ∧
      postN g W ρ G F2 σ Q ((lcL b tf f vs (ds.drop i) acc E2).bind fun xs E2 => .val (.lst xs) (restoreE E1 E2 vs)), ⟨_, Nat.zero_le _, rfl, F1, wipeE E1 vs, [], [], (st1.temp hD _).wiped vs, rfl, Same.refl _, postN.mono s1 (by simpa using q)⟩, ?_⟩
    rintro i m H2 ⟨hi, rfl, F2, E2, acc, xs, st2, ra, s2, q2⟩
    by_cases hlt : i < ds.length
    · refine .inr ⟨w.goes i H2 F2 s2 st2.sf hlt, fun H' => i + 1 ≤ ds.length ∧ ∃ F2 E2 acc xs, StOk g ρ (upd G D (.lst xs)) E2 F2 (wipe σ vs) H' ∧ RepL g F2 acc xs ∧ Same F1 F2 ∧
        postN g W ρ G F2 σ Q ((lcL b tf f vs (ds.drop (i + 1)) acc E2).bind fun xs E2 => .val (.lst xs) (restoreE E1 E2 vs)), fun H' ⟨a, r⟩ => ⟨ds.length - (i + 1), by omega, a, rfl, r⟩, fun x H3 y => ?_⟩
      obtain ⟨d, F3, hd, gr, r⟩ := w.yields i H2 F2 x H3 s2 st2.sf hlt y
      have hdrop : ds.drop i = d :: ds.drop (i + 1) := by
        rw [List.drop_eq_getElem_cons hlt]
        rw [List.getElem?_eq_getElem hlt] at hd
        rw [Option.some.inj hd]
      rw [hdrop] at q2
      unfold lcL at q2
      cases z : b d E2 with
      | none => simp only [z] at q2; exact q2.elim
      | some E3 =>
        simp only [z] at q2
        refine ⟨ρ, _, E2, F3, d, gr.2 _ _ _ _ st2, r, E3, z, fun σ4 F4 H4 st4 s4 w4 => ⟨w4.trans wipe_wipe, ?_⟩⟩
        rw [wipe_wipe] at w4
        have s14 : Same F2 F4 := gr.1.trans s4
        refine noxE (P := fun r : R (List FL.D) => postN g W ρ G F2 σ Q (r.bind fun xs E2 => .val (.lst xs) (restoreE E1 E2 vs))) q2 (fun h => h) st4 fun k E5 c F5 H5 st5 s5 r5 q5 => ?_
        obtain rfl : k = c := r5
        cases k with
        | false =>
          rw [if_neg Bool.false_ne_true] at q5 ⊢
          exact ⟨hlt, F5, _, acc, xs, st5.wiped2 vs w4, ra.mono (s14.trans s5), (s2.trans s14).trans s5, postN.mono (s14.trans s5) q5⟩
        | true =>
          rw [if_pos rfl] at q5 ⊢
          refine noxE (P := fun r : R (List FL.D) => postN g W ρ G F2 σ Q (r.bind fun xs E2 => .val (.lst xs) (restoreE E1 E2 vs))) q5 (fun h => h) st5 fun y E6 v F6 H6 st6 s6 r6 q6 => ?_
          by_cases hz : acc.length < sizeLine
          · rw [if_pos hz] at q6
            have s16 := (s14.trans s5).trans s6
            have hD6 : H6 D = some (.lst xs) := st6.sg _ _ upd_same
            refine ⟨xs, hD6, by rw [← ra.length]; exact hz, hlt, F6, _, acc ++ [y], xs ++ [v], (st6.rewrite gD).wiped2 vs w4, (ra.mono s16).append ⟨v, [], rfl, r6, rfl⟩, s2.trans s16, postN.mono s16 q6⟩
          · rw [if_neg hz] at q6
            exact q6.elim
    · have e : i = ds.length := by omega
      subst e
      rw [List.drop_length] at q2
      have q2 : postN g W ρ G F2 σ Q (.val (.lst acc) (restoreE E1 E2 vs)) := q2
      refine .inl ⟨w.stops H2 F2 s2 st2.sf, ?_⟩
      exact q2 D (.lst xs) F2 H2 (st2.restored st1 s2) gD ⟨xs, rfl, ra⟩ (Same.refl _)
theorem fn_lc {fi : Nv → R (List D)} {b : Bd} {tf : Nv → R Bool} {f : Nv → R D} {vs : List Nat} (h : PE X e (tLc (tI g W fi) (tGv g vs b) (tG g W0 relB tf) (tG g W0 (relD g) f) vs)) : FN X g W e (fLc fi b tf f vs) := peImp h fun _ _ _ q => le_lc q
/-- x = [..] -/
theorem fs_setLc {i : Nat} {fi : Nv → R (List D)} {b : Bd} {tf : Nv → R Bool} {f : Nv → R D} {vs : List Nat} (h : PS X st (tAsg (tLc (tI g W fi) (tGv g vs b) (tG g W0 relB tf) (tG g W0 (relD g) f) vs) (gName i))) : FS X g W st (fSetN i (fLc fi b tf f vs)) :=
  fs_setN (psImp h fun D σ H q => le_lc q)
end
end FL

namespace FL
open PySem PySem.Spec PyProof.Rows L2

/-! ## defs -/
inductive FR where
  | val (d : D) (bs : List Sl) | new (d : D) (bs : List Sl) | exc (c : Nat) (fs : Option (Str × D)) (bs : List Sl) | bad
abbrev Fn := List Sl → FR
def spF (g : Gm) (n : Nat) (fn : Fn) : Sp := fun vs H Q X => vs.length = n ∧ ∃ ρ G as F, StOk g ρ G as F (vs.map some) H ∧ match fn as with
  | .val d bs => ∀ v F' H', StOk g ρ G bs F' (vs.map some) H' → Same F F' → Rep g F' d v → Q v H'
  | .new d bs => ∀ p o F' H', StOk g ρ (upd G p o) bs F' (vs.map some) H' → G p = none → OwnO g F' d o → Same F F' → Q (.ref p) H'
  | .exc c fs bs => ∀ dx F' H', StOk g ρ G bs F' (vs.map some) H' → Same F F' → XRep g F' fs dx → X (.ref (g.xcl c)) dx H'
  | .bad => False
/-- what comes back of the arguments: the lent ones -/
def backs : List Sl → Nv → Option (List Sl)
  | [], _ => some []
  | .bor k _ :: as, .bor k' d' :: E => if k = k' then (match backs as E with
    | some b => some (.bor k d' :: b)
    | none => none) else none
  | .bor _ _ :: _, _ => none
  | _ :: as, _ :: E => match backs as E with
    | some b => some (.no :: b)
    | none => none
  | _ :: _, [] => none
def runF (N : Nat) (s : Nv → R Fl) : Fn := fun as => match s (as ++ List.replicate (N - as.length) .no) with
  | .val .nx E => match backs as E with
    | some b => .val .non b
    | none => .bad
  | .val (.rt d) E => match backs as E with
    | some b => .val d b
    | none => .bad
  | .val (.rn d) E => match backs as E with
    | some b => .new d b
    | none => .bad
  | .exc c fs E => match backs as E with
    | some b => .exc c fs b
    | none => .bad
  | _ => .bad
theorem backs_get : ∀ {as : List Sl} {E : Nv} {b : List Sl}, backs as E = some b → b.length = as.length ∧ ∀ (i : Nat) s, b[i]? = some s → s = .no ∨ ∃ k d d0, s = .bor k d ∧ E[i]? = some (.bor k d) ∧ as[i]? = some (.bor k d0)
  | [], E, b, h => by cases h; exact ⟨rfl, fun i s e => by simp at e⟩
  | a :: as, [], b, h => by
    cases a <;> simp [backs] at h
  | a :: as, e :: E, b, h => by
    have rest : ∀ {b'}, backs as E = some b' → ∀ x, (x = .no ∨ ∃ k d d0, x = .bor k d ∧ e = .bor k d ∧ a = .bor k d0) → b = x :: b' → b.length = (a :: as).length ∧ ∀ (i : Nat) s, b[i]? = some s → s = .no ∨ ∃ k d d0, s = .bor k d ∧ (e :: E)[i]? = some (.bor k d) ∧ (a :: as)[i]? = some (.bor k d0) := by
      intro b' hb x hx e1
      obtain ⟨l, g⟩ := backs_get hb
      subst e1
      refine ⟨by simp [l], fun i s es => ?_⟩
      cases i with
      | zero =>
        simp at es
        subst es
        rcases hx with z | ⟨k, d, d0, z1, z2, z3⟩
        · exact .inl z
        · exact .inr ⟨k, d, d0, z1, by simp [z2], by simp [z3]⟩
      | succ i =>
        rcases g i s (by simpa using es) with z | ⟨k, d, d0, z1, z2, z3⟩
        · exact .inl z
        · exact .inr ⟨k, d, d0, z1, by simpa using z2, by simpa using z3⟩
    have plain : (match backs as E with | some b => some (Sl.no :: b) | none => none) = some b → b.length = (a :: as).length ∧ ∀ (i : Nat) s, b[i]? = some s → s = .no ∨ ∃ k d d0, s = .bor k d ∧ (e :: E)[i]? = some (.bor k d) ∧ (a :: as)[i]? = some (.bor k d0) := by
      intro h
      cases q : backs as E with
      | none => simp [q] at h
      | some b' =>
        simp only [q, Option.some.injEq] at h
        exact rest q .no (.inl rfl) h.symm
    cases a with
    | bor k d0 =>
      cases e with
      | bor k' d =>
        unfold backs at h
        by_cases hk : k = k'
        · subst hk
          rw [if_pos rfl] at h
          cases q : backs as E with
          | none => simp [q] at h
          | some b' =>
            simp only [q, Option.some.injEq] at h
            exact rest q (.bor k d) (.inr ⟨k, d, d0, rfl, rfl, rfl⟩) h.symm
        · rw [if_neg hk] at h; cases h
      | _ => cases h
    | no => exact plain h
    | fz _ => exact plain h
    | own _ => exact plain h
section
variable {g : Gm} {ρ : Nat → Addr} {G F H G' F' H' : Hp} {E E' : Nv} {σ σ' : L2.St} {as bs : List Sl} {p : Addr} {o : HO}
theorem StOk.backs (st0 : StOk g ρ G as F σ H) (st' : StOk g ρ G' E' F' σ' H') (hb : FL.backs as E' = some bs) : StOk g ρ G' bs F' σ H' := by
  obtain ⟨hl, hg⟩ := backs_get hb
  obtain ⟨ps0, a1, a2, a3⟩ := st0.ow
  obtain ⟨ps, h1, h2, h3⟩ := st'.ow
  have look : ∀ {i : Nat} {s : Sl} {d : D}, bs[i]? = some s → s.cell = some d → ∃ k d0, s = .bor k d ∧ E'[i]? = some (.bor k d) ∧ as[i]? = some (.bor k d0) := fun {i s d} e c => by
    rcases hg i s e with z | ⟨k, d', d0, z1, z2, z3⟩
    · rw [z] at c; cases c
    · rw [z1] at c; cases c; exact ⟨k, d0, z1, z2, z3⟩
  refine ⟨st'.sf, st'.sg, st'.dj, by rw [hl]; exact st0.len, fun i d e => ?_, ps, fun i s d e c => ?_, fun i k d e => ?_, fun i j s t d e e1 c1 e2 c2 q => ?_⟩
  · rcases hg i _ e with z | ⟨k, d', d0, z1, _⟩
    · cases z
    · cases z1
  · obtain ⟨k, d0, rfl, z2, z3⟩ := look e c
    have w := h1 i _ d z2 rfl
    refine ⟨?_, w.2⟩
    rw [(a1 i _ d0 z3 rfl).1, a2 i k d0 z3, h2 i k d z2]
  · obtain ⟨k', d0, z1, z2, z3⟩ := look (d := d) e rfl
    cases z1
    exact h2 i k d z2
  · obtain ⟨k, d0, rfl, z2, _⟩ := look e1 c1
    obtain ⟨k', d1, rfl, z3, _⟩ := look e2 c2
    exact h3 i j _ _ _ _ z2 rfl z3 rfl q
theorem StOk.extend (st : StOk g ρ G as F σ H) (n : Nat) : StOk g ρ G (as ++ List.replicate n .no) F (σ ++ List.replicate n none) H := st.reslot (by simp [st.len]) fun i s h => by
  by_cases hi : i < as.length
  · rw [List.getElem?_append_left hi] at h
    exact .inl ⟨h, List.getElem?_append_left (by rw [← st.len]; exact hi)⟩
  · rw [List.getElem?_append_right (by omega)] at h
    exact .inr (.inl (List.eq_of_mem_replicate (List.mem_of_getElem? h)))
end
section
variable {P : Program} {w : World} {K : PySem.W.Frag} {mg : Str → Option Value} {base : Heap} {g : Gm}
/-- THE RULE for a def -/
theorem fn_ok {x qual : Str} {st : Stmt} {f : Addr} {fd : FuncData} {N ps : List Str} {k : Nat} (F : Fun K x qual st f fd) (S : FnScope N ps (defScope st)) (s : Nv → R Fl) (n : Nat) (hn : n = ps.length) (M : Nat) (hM : M = N.length)
    (hbody : ∀ (cdv : Value) (A : Around) (outer : List Env) (sh : Shared) (H : Hp) (E : XK), Room k (A.deeper (envOfC qual (defScope st) sh.heap.objs.size f cdv)) →
      FSs (cxOf (L2.CX P w) P w K mg base N qual (defScope st) f cdv A outer sh H E) g (fun cls d _ H => E cls d H) (defBody st) s) : FnOk P w K mg base (L2.CX P w) (k + 1) f fd ps (spF g n (runF M s)) := by
  subst hn hM
  refine F.okX S (fun vs H Q E h => h.1) (fun cdv A outer sh H vs Q E hr h => ⟨_, hbody cdv A outer sh H E hr, ?_⟩)
  obtain ⟨hl, ρ, G, as, Fz, st, q⟩ := h
  have st1 := st.extend (N.length - as.length)
  have la : as.length = vs.length := by rw [st.len]; simp
  refine ⟨ρ, G, as ++ List.replicate (N.length - as.length) .no, Fz, by unfold L2.start; rw [← la]; exact st1, ?_⟩
  unfold runF at q
  revert q
  cases s (as ++ List.replicate (N.length - as.length) .no) with
  | bad => exact fun q => q
  | exc c fs E' =>
    cases z : backs as E' with
    | none => simp only [z]; exact fun q => q.elim
    | some b => simp only [z]; exact fun q dx σ' F' H' st' ss xr => q dx F' H' (st.backs st' z) ss xr
  | val fl E' =>
    cases fl with
    | bk => exact fun q => q.elim
    | ct => exact fun q => q.elim
    | nx =>
      cases z : backs as E' with
      | none => simp only [z]; exact fun q => q.elim
      | some b => simp only [z]; exact fun q σ' F' H' st' ss => q .non F' H' (st.backs st' z) ss rfl
    | rt d =>
      cases z : backs as E' with
      | none => simp only [z]; exact fun q => q.elim
      | some b => simp only [z]; exact fun q v σ' F' H' st' ss r => q v F' H' (st.backs st' z) ss r
    | rn d =>
      cases z : backs as E' with
      | none => simp only [z]; exact fun q => q.elim
      | some b => simp only [z]; exact fun q p o σ' F' H' st' gn ow ss => q p o F' H' (st.backs st' z) gn ow ss
end

/-! ## calls -/
def lend (E : Nv) : Nat → List Ar → Option (List Sl)
  | _, [] => some []
  | m, .v d :: r => match lend E (m + 1) r with
    | some as => some (.fz d :: as)
    | none => none
  | m, .pk j :: r => match E[j]?, lend E (m + 1) r with
    | some (.fz d), some as => some (.fz d :: as)
    | some (.own d), some as => some (.bor m d :: as)
    | some (.bor _ d), some as => some (.bor m d :: as)
    | _, _ => none
def unlend : List Ar → List Sl → Nv → Nv
  | .pk j :: r, .bor _ d :: bs, E => unlend r bs (match E[j]? with
    | some s => E.set j (s.put d)
    | none => E)
  | _ :: r, _ :: bs, E => unlend r bs E
  | _, _, E => E
/-- no slot is lent twice -/
def once : List Ar → Bool
  | [] => true
  | .pk j :: r => !(r.any fun a => match a with
    | .pk i => i == j
    | _ => false) && once r
  | _ :: r => once r
/-- all that was lent comes back -/
def shape : List Sl → List Sl → Bool
  | [], [] => true
  | .bor _ _ :: a, .bor _ _ :: b => shape a b
  | .bor _ _ :: _, _ => false
  | _ :: a, _ :: b => shape a b
  | _, _ => false
theorem lend_get {E : Nv} : ∀ {ars : List Ar} {m : Nat} {as : List Sl}, lend E m ars = some as → as.length = ars.length ∧ ∀ (i : Nat) a, ars[i]? = some a → match a with
    | .v d => as[i]? = some (.fz d)
    | .pk j => (∃ d, E[j]? = some (.fz d) ∧ as[i]? = some (.fz d)) ∨ ∃ s d, E[j]? = some s ∧ s.cell = some d ∧ as[i]? = some (.bor (m + i) d)
  | [], m, as, h => by cases h; exact ⟨rfl, fun i a e => by simp at e⟩
  | a :: r, m, as, h => by
    have rest : ∀ {as'} {x : Sl}, lend E (m + 1) r = some as' → as = x :: as' → (match a with
        | .v d => x = .fz d
        | .pk j => (∃ d, E[j]? = some (.fz d) ∧ x = .fz d) ∨ ∃ s d, E[j]? = some s ∧ s.cell = some d ∧ x = .bor m d) → as.length = (a :: r).length ∧ ∀ (i : Nat) b, (a :: r)[i]? = some b → match b with
        | .v d => as[i]? = some (.fz d)
        | .pk j => (∃ d, E[j]? = some (.fz d) ∧ as[i]? = some (.fz d)) ∨ ∃ s d, E[j]? = some s ∧ s.cell = some d ∧ as[i]? = some (.bor (m + i) d) := by
      intro as' x hr e hx
      obtain ⟨l, g⟩ := lend_get hr
      subst e
      refine ⟨by simp [l], fun i b hb => ?_⟩
      cases i with
      | zero =>
        simp at hb
        subst hb
        cases a with
        | v d => simp only at hx ⊢; simp [hx]
        | pk j =>
          simp only at hx ⊢
          rcases hx with ⟨d, z1, z2⟩ | ⟨s, d, z1, z2, z3⟩
          · exact .inl ⟨d, z1, by simp [z2]⟩
          · exact .inr ⟨s, d, z1, z2, by simp [z3]⟩
      | succ i =>
        have := g i b (by simpa using hb)
        cases b with
        | v d => simpa using this
        | pk j =>
          simp only at this ⊢
          rcases this with ⟨d, z1, z2⟩ | ⟨s, d, z1, z2, z3⟩
          · exact .inl ⟨d, z1, by simpa using z2⟩
          · exact .inr ⟨s, d, z1, z2, by rw [show m + (i + 1) = m + 1 + i by omega]; simpa using z3⟩
    cases a with
    | v d =>
      unfold lend at h
      cases q : lend E (m + 1) r with
      | none => simp [q] at h
      | some as' =>
        simp only [q, Option.some.injEq] at h
        exact rest q h.symm rfl
    | pk j =>
      unfold lend at h
      cases q : lend E (m + 1) r with
      | none =>
        cases z : E[j]? with
        | none => simp [q, z] at h
        | some s => cases s <;> simp [q, z] at h
      | some as' =>
        cases z : E[j]? with
        | none => simp [q, z] at h
        | some s =>
          cases s with
          | no => simp [q, z] at h
          | fz d => simp only [q, z, Option.some.injEq] at h; exact rest q h.symm (.inl ⟨d, z, rfl⟩)
          | own d => simp only [q, z, Option.some.injEq] at h; exact rest q h.symm (.inr ⟨_, d, z, rfl, rfl⟩)
          | bor k d => simp only [q, z, Option.some.injEq] at h; exact rest q h.symm (.inr ⟨_, d, z, rfl, rfl⟩)
theorem put_put {s : Sl} {d e : D} : (s.put d).put e = s.put e := by cases s <;> rfl
theorem put_cell {s : Sl} {d e : D} (h : s.cell = some e) : (s.put d).cell = some d := by cases s <;> first | rfl | cases h
theorem put_cell' {s : Sl} {d e : D} (h : (s.put d).cell = some e) : e = d ∧ ∃ x, s.cell = some x := by
  cases s with
  | no => cases h
  | fz _ => cases h
  | own x => cases h; exact ⟨rfl, x, rfl⟩
  | bor k x => cases h; exact ⟨rfl, x, rfl⟩
theorem put_fz {s : Sl} {d e : D} (h : s.put d = .fz e) : s = .fz e := by cases s <;> first | exact h | cases h
theorem put_bor {s : Sl} {d e : D} {k : Nat} (h : s.put d = .bor k e) : e = d ∧ ∃ x, s = .bor k x := by
  cases s with
  | bor k' x => cases h; exact ⟨rfl, x, rfl⟩
  | _ => cases h
theorem unlend_get : ∀ {ars : List Ar} {bs : List Sl} {E : Nv} {j : Nat} {s : Sl}, (unlend ars bs E)[j]? = some s →
    ∃ s0, E[j]? = some s0 ∧ ((s = s0 ∧ ∀ (m k : Nat) d, ars[m]? = some (.pk j) → bs[m]? ≠ some (.bor k d)) ∨ ∃ (m k : Nat) (d : D), ars[m]? = some (.pk j) ∧ bs[m]? = some (.bor k d) ∧ s = s0.put d)
  | [], bs, E, j, s, h => ⟨s, by simpa [unlend] using h, .inl ⟨rfl, fun m k d e => by simp at e⟩⟩
  | a :: r, [], E, j, s, h => ⟨s, by cases a <;> simpa [unlend] using h, .inl ⟨rfl, fun m k d e => by simp⟩⟩
  | a :: r, b :: bs, E, j, s, h => by
    have skip : (∀ i k d, a = .pk i → b ≠ .bor k d) → (unlend r bs E)[j]? = some s → ∃ s0, E[j]? = some s0 ∧ ((s = s0 ∧ ∀ (m k : Nat) d, (a :: r)[m]? = some (.pk j) → (b :: bs)[m]? ≠ some (.bor k d)) ∨ ∃ (m k : Nat) (d : D), (a :: r)[m]? = some (.pk j) ∧ (b :: bs)[m]? = some (.bor k d) ∧ s = s0.put d) := by
      intro hab h
      obtain ⟨s0, e0, c⟩ := unlend_get h
      refine ⟨s0, e0, ?_⟩
      rcases c with ⟨e1, n⟩ | ⟨m, k, d, e1, e2, e3⟩
      · refine .inl ⟨e1, fun m k d e => ?_⟩
        cases m with
        | zero =>
          simp at e
          intro e'
          simp at e'
          exact hab j k d e e'
        | succ m => simpa using n m k d (by simpa using e)
      · exact .inr ⟨m + 1, k, d, by simpa using e1, by simpa using e2, e3⟩
    cases a with
    | v d0 => exact skip (fun _ _ _ e => nomatch e) (by cases b <;> simpa [unlend] using h)
    | pk i =>
      cases b with
      | bor k0 d0 =>
        unfold unlend at h
        obtain ⟨s0, e0, c⟩ := unlend_get h
        by_cases hij : i = j
        · subst hij
          cases z : E[i]? with
          | none => rw [z] at e0; simp only at e0; rw [z] at e0; cases e0
          | some t =>
            rw [z] at e0
            simp only at e0
            rw [List.getElem?_set_self (List.getElem?_eq_some_iff.mp z).1] at e0
            cases e0
            refine ⟨t, rfl, .inr ?_⟩
            rcases c with ⟨e1, n⟩ | ⟨m, k, d, e1, e2, e3⟩
            · exact ⟨0, k0, d0, rfl, rfl, e1⟩
            · exact ⟨m + 1, k, d, by simpa using e1, by simpa using e2, by rw [e3, put_put]⟩
        · have e0' : E[j]? = some s0 := by
            cases z : E[i]? with
            | none => rw [z] at e0; exact e0
            | some t => rw [z] at e0; simp only at e0; rw [List.getElem?_set_ne hij] at e0; exact e0
          refine ⟨s0, e0', ?_⟩
          rcases c with ⟨e1, n⟩ | ⟨m, k, d, e1, e2, e3⟩
          · refine .inl ⟨e1, fun m k d e => ?_⟩
            cases m with
            | zero => simp at e; exact absurd e hij
            | succ m => simpa using n m k d (by simpa using e)
          · exact .inr ⟨m + 1, k, d, by simpa using e1, by simpa using e2, e3⟩
      | no => exact skip (fun _ _ _ _ e => nomatch e) (by simpa [unlend] using h)
      | fz _ => exact skip (fun _ _ _ _ e => nomatch e) (by simpa [unlend] using h)
      | own _ => exact skip (fun _ _ _ _ e => nomatch e) (by simpa [unlend] using h)
theorem unlend_length : ∀ (ars : List Ar) (bs : List Sl) (E : Nv), (unlend ars bs E).length = E.length
  | [], _, _ => rfl
  | a :: r, [], E => by cases a <;> simp [unlend]
  | a :: r, b :: bs, E => by
    cases a with
    | v d => cases b <;> simpa [unlend] using unlend_length r bs E
    | pk i =>
      cases b with
      | bor k d =>
        unfold unlend
        rw [unlend_length]
        cases E[i]? <;> simp
      | _ => simpa [unlend] using unlend_length r bs E
theorem once_inj : ∀ {ars : List Ar}, once ars = true → ∀ (i i' j : Nat), ars[i]? = some (.pk j) → ars[i']? = some (.pk j) → i = i'
  | [], _, i, i', j, h, _ => by simp at h
  | a :: r, h, i, i', j, h1, h2 => by
    have hr : once r = true := by
      cases a with
      | v d => exact h
      | pk k => unfold once at h; rw [Bool.and_eq_true] at h; exact h.2
    have no : ∀ k m : Nat, a = .pk k → r[m]? ≠ some (.pk k) := by
      intro k m e e2
      subst e
      unfold once at h
      rw [Bool.and_eq_true, Bool.not_eq_true'] at h
      have := List.any_eq_false.mp h.1 _ (List.mem_of_getElem? e2)
      simp at this
    cases i with
    | zero =>
      cases i' with
      | zero => rfl
      | succ m => simp at h1 h2; exact absurd h2 (no j m h1)
    | succ n =>
      cases i' with
      | zero => simp at h1 h2; exact absurd h1 (no j n h2)
      | succ m => simp at h1 h2; rw [once_inj hr n m j h1 h2]
theorem shape_get : ∀ {as bs : List Sl}, shape as bs = true → ∀ (m k : Nat) d, as[m]? = some (.bor k d) → ∃ k' d', bs[m]? = some (.bor k' d')
  | [], _, _, m, k, d, h => by simp at h
  | a :: as, [], h, _, _, _, _ => by cases a <;> simp [shape] at h
  | a :: as, b :: bs, h, m, k, d, e => by
    have hr : shape as bs = true ∧ (∀ k d, a = .bor k d → ∃ k' d', b = .bor k' d') := by
      cases a with
      | bor k0 d0 =>
        cases b with
        | bor k1 d1 => exact ⟨h, fun _ _ _ => ⟨k1, d1, rfl⟩⟩
        | _ => cases h
      | _ => exact ⟨h, fun _ _ e => nomatch e⟩
    cases m with
    | zero =>
      simp at e
      obtain ⟨k', d', z⟩ := hr.2 k d e
      exact ⟨k', d', by simp [z]⟩
    | succ m =>
      obtain ⟨k', d', z⟩ := shape_get hr.1 m k d (by simpa using e)
      exact ⟨k', d', by simpa using z⟩
theorem ArsOk.get {g : Gm} {F : Hp} {σ : L2.St} : ∀ {ars : List Ar} {vs : List V} {i : Nat} {a : Ar}, ArsOk g F σ ars vs → ars[i]? = some a → ∃ v, vs[i]? = some v ∧ ArOk g F σ a v
  | [], _, _, _, _, h => by simp at h
  | b :: r, _, 0, a, ⟨x, xs, e, q, t⟩, h => by subst e; simp at h; subst h; exact ⟨x, rfl, q⟩
  | b :: r, _, i + 1, a, ⟨x, xs, e, q, t⟩, h => by
    subst e
    obtain ⟨v, z1, z2⟩ := ArsOk.get (i := i) t (by simpa using h)
    exact ⟨v, by simpa using z1, z2⟩
section
variable {g : Gm} {ρ : Nat → Addr} {G F H : Hp} {E : Nv} {σ : L2.St} {ars : List Ar} {as : List Sl} {vs : List V}
/-- the callee's view, and the way back -/
theorem lent (st : StOk g ρ G E F σ H) (ra : ArsOk g F σ ars vs) (hl : lend E 0 ars = some as) (ho : once ars = true) :
    ∃ (ρ' : Nat → Addr) (G' : Hp), StOk g ρ' G' as F (vs.map some) H ∧
      (∀ bs F' H', shape as bs = true → StOk g ρ' G' bs F' (vs.map some) H' → Same F F' → StOk g ρ G (unlend ars bs E) F' σ H') ∧
      (∀ bs F' H' p o, shape as bs = true → StOk g ρ' (upd G' p o) bs F' (vs.map some) H' → G' p = none → Same F F' → G p = none ∧ StOk g ρ (upd G p o) (unlend ars bs E) F' σ H') := by
  obtain ⟨ps, h1, h2, h3⟩ := st.ow
  obtain ⟨ll, lg⟩ := lend_get hl
  have lv : as.length = vs.length := by rw [ll, ra.length]
  haveI : ∀ q, Decidable (∃ (j : Nat) (s : Sl) (d : D), E[j]? = some s ∧ s.cell = some d ∧ ps j = q ∧ ∀ i : Nat, ars[i]? ≠ some (.pk j)) := fun q => Classical.propDecidable _
  let G' : Hp := fun q => if (∃ (j : Nat) (s : Sl) (d : D), E[j]? = some s ∧ s.cell = some d ∧ ps j = q ∧ ∀ i : Nat, ars[i]? ≠ some (.pk j)) then H q else G q
  have g'own : ∀ {j : Nat} {s : Sl} {d : D}, E[j]? = some s → s.cell = some d → (∀ i : Nat, ars[i]? ≠ some (.pk j)) → G' (ps j) = H (ps j) := fun {j s d} e c n => if_pos ⟨j, s, d, e, c, rfl, n⟩
  have g'lent : ∀ {j : Nat} {s : Sl} {d : D} {i : Nat}, E[j]? = some s → s.cell = some d → ars[i]? = some (.pk j) → G' (ps j) = none := fun {j s d i} e c hi => by
    have : G' (ps j) = G (ps j) := if_neg (fun ⟨j', s', d', e', c', q', n'⟩ => by
      have := h3 j' j s' s d' d e' c' e c q'
      subst this
      exact n' i hi)
    rw [this]
    exact (h1 j s d e c).2.2.1
  have g'G : ∀ {q : Addr} {o : HO}, G q = some o → G' q = some o := fun {q o} e => by
    have : G' q = G q := if_neg (fun ⟨j', s', d', e', c', q', n'⟩ => by
      have := (h1 j' s' d' e' c').2.2.1
      rw [q', e] at this
      cases this)
    rw [this]; exact e
  have g'cases : ∀ {q : Addr} {o : HO}, G' q = some o → H q = some o ∧ F q = none := fun {q o} e => by
    by_cases hq : ∃ (j : Nat) (s : Sl) (d : D), E[j]? = some s ∧ s.cell = some d ∧ ps j = q ∧ ∀ i : Nat, ars[i]? ≠ some (.pk j)
    · have e' : H q = some o := (if_pos hq).symm.trans e
      obtain ⟨j, s, d, e1, c1, q1, _⟩ := hq
      exact ⟨e', by rw [← q1]; exact (h1 j s d e1 c1).2.1⟩
    · have e' : G q = some o := (if_neg hq).symm.trans e
      exact ⟨st.sg _ _ e', st.dj _ _ e'⟩
  have vget : ∀ {i j : Nat} {s : Sl} {d : D}, ars[i]? = some (.pk j) → E[j]? = some s → s.cell = some d → (vs.map some)[i]? = some (some (.ref (ps j))) := fun {i j s d} ha e c => by
    obtain ⟨v, z1, z2⟩ := ra.get ha
    have z2 : σ[j]? = some (some v) := z2
    rw [(h1 j s d e c).1] at z2
    have : V.ref (ps j) = v := Option.some.inj (Option.some.inj z2)
    rw [List.getElem?_map, z1, ← this]
    rfl
  -- the callee's slots
  have argof : ∀ {i : Nat} {s : Sl}, as[i]? = some s → ∃ a, ars[i]? = some a := fun {i s} e => by
    have hi : i < ars.length := by rw [← ll]; exact (List.getElem?_eq_some_iff.mp e).1
    exact ⟨_, List.getElem?_eq_getElem hi⟩
  have look : ∀ {i : Nat} {s : Sl} {d : D}, as[i]? = some s → s.cell = some d → ∃ j t, ars[i]? = some (.pk j) ∧ E[j]? = some t ∧ t.cell = some d ∧ s = .bor i d := fun {i s d} e c => by
    obtain ⟨a, ha⟩ := argof e
    have z := lg i a ha
    cases a with
    | v x => simp only at z; rw [e] at z; cases z; cases c
    | pk j =>
      simp only at z
      rcases z with ⟨x, _, z⟩ | ⟨t, x, z1, z2, z3⟩
      · rw [e] at z; cases z; cases c
      · rw [e] at z3
        have := Option.some.inj z3
        subst this
        cases c
        exact ⟨j, t, ha, z1, z2, by rw [Nat.zero_add]⟩
  let jx : Nat → Nat := fun i => match ars[i]? with
    | some (.pk j) => j
    | _ => 0
  have jxe : ∀ {i j : Nat}, ars[i]? = some (.pk j) → jx i = j := fun {i j} e => by
    show (match ars[i]? with | some (.pk j) => j | _ => 0) = j
    rw [e]
  have callee : StOk g (fun i => ps (jx i)) G' as F (vs.map some) H := by
    refine ⟨st.sf, fun q o e => (g'cases e).1, fun q o e => (g'cases e).2, by simpa using lv, fun i d e => ?_, fun i => ps (jx i), fun i s d e c => ?_, fun i k d e => ?_, fun i i' s t d e e1 c1 e2 c2 q => ?_⟩
    · obtain ⟨a, ha⟩ := argof e
      obtain ⟨v, z1, z2⟩ := ra.get ha
      have z := lg i a ha
      cases a with
      | v x =>
        simp only at z
        rw [e] at z; cases z
        exact ⟨v, by rw [List.getElem?_map, z1]; rfl, z2⟩
      | pk j =>
        simp only at z
        rcases z with ⟨x, z3, z4⟩ | ⟨t, x, _, _, z4⟩
        · rw [e] at z4; cases z4
          have z2 : σ[j]? = some (some v) := z2
          obtain ⟨u, y1, y2⟩ := st.fz j d z3
          rw [z2] at y1; cases y1
          exact ⟨v, by rw [List.getElem?_map, z1]; rfl, y2⟩
        · rw [e] at z4; cases z4
    · obtain ⟨j, t, ha, e1, c1, rfl⟩ := look e c
      obtain ⟨w1, w2, w3, w4⟩ := h1 j t d e1 c1
      show (List.map some vs)[i]? = some (some (V.ref (ps (jx i)))) ∧ OwnAt g G' F H (ps (jx i)) d
      rw [jxe ha]
      exact ⟨vget ha e1 c1, w2, g'lent e1 c1 ha, w4⟩
    · obtain ⟨j, t, ha, e1, c1, z⟩ := look (d := d) e rfl
      cases z
      rfl
    · obtain ⟨j, u, ha, y1, y2, _⟩ := look e1 c1
      obtain ⟨j', u', ha', y1', y2', _⟩ := look e2 c2
      simp only [jxe ha, jxe ha'] at q
      have := h3 j j' u u' _ _ y1 y2 y1' y2' q
      subst this
      exact once_inj ho i i' j ha ha'
  -- an owned slot's object behind the call
  have after : ∀ (Gc : Hp) (bs : List Sl) (F' H' : Hp), (∀ q o, G' q = some o → Gc q = some o) → shape as bs = true → StOk g (fun i => ps (jx i)) Gc bs F' (vs.map some) H' → Same F F' → ∀ (j : Nat) s d, (unlend ars bs E)[j]? = some s → s.cell = some d →
      (∃ s0 d0, E[j]? = some s0 ∧ s0.cell = some d0 ∧ (∀ k, s = .bor k d → ∃ x, s0 = .bor k x)) ∧ F' (ps j) = none ∧ (∃ o, H' (ps j) = some o ∧ OwnO g F' d o) ∧ ((∃ o, G' (ps j) = some o) ∨ Gc (ps j) = none) := by
    intro Gc bs F' H' hG sh st' ss j s d e c
    obtain ⟨s0, e0, k⟩ := unlend_get e
    rcases k with ⟨rfl, n⟩ | ⟨m, k, x, y1, y2, rfl⟩
    · have notlent : ∀ i : Nat, ars[i]? ≠ some (.pk j) := fun i hi => by
        have z := lg i _ hi
        simp only at z
        rcases z with ⟨x, z1, _⟩ | ⟨t, x, z1, z2, z3⟩
        · rw [e0] at z1; cases z1; cases c
        · obtain ⟨k', d', z4⟩ := shape_get sh i _ _ z3
          exact n i k' d' hi z4
      obtain ⟨w1, w2, w3, o, w4, w5⟩ := h1 j s d e0 c
      have gj := g'own e0 c notlent
      rw [w4] at gj
      exact ⟨⟨s, d, e0, c, fun k z => ⟨d, z⟩⟩, st'.dj _ _ (hG _ _ gj), ⟨o, st'.sg _ _ (hG _ _ gj), w5.mono ss⟩, .inl ⟨o, gj⟩⟩
    · obtain ⟨rfl, x0, c0⟩ := put_cell' c
      obtain ⟨p, z1, z2, z3, z4⟩ := st'.at y2 rfl
      rw [vget y1 e0 c0] at z1
      have : ps j = p := by injection (Option.some.inj (Option.some.inj z1))
      subst this
      exact ⟨⟨s0, x0, e0, c0, fun k' z => (put_bor z).2⟩, z2, z4, .inr z3⟩
  have fzs : ∀ (bs : List Sl) (F' : Hp), Same F F' → ∀ (j : Nat) d, (unlend ars bs E)[j]? = some (.fz d) → ∃ v, σ[j]? = some (some v) ∧ Rep g F' d v := by
    intro bs F' ss j d e
    obtain ⟨s0, e0, k⟩ := unlend_get e
    have : s0 = .fz d := by
      rcases k with ⟨z, _⟩ | ⟨_, _, x, _, _, z⟩
      · exact z.symm
      · exact put_fz z.symm
    subst this
    obtain ⟨v, a, b⟩ := st.fz j d e0
    exact ⟨v, a, b.mono ss⟩
  refine ⟨fun i => ps (jx i), G', callee, fun bs F' H' sh st' ss => ?_, fun bs F' H' p o sh st' gp ss => ?_⟩
  · have af := after G' bs F' H' (fun _ _ z => z) sh st' ss
    refine ⟨st'.sf, fun q o e => st'.sg _ _ (g'G e), fun q o e => st'.dj _ _ (g'G e), by rw [unlend_length]; exact st.len, fzs bs F' ss, ps, fun j s d e c => ?_, fun j k d e => ?_, fun j j' s t d e e1 c1 e2 c2 q => ?_⟩
    · obtain ⟨⟨s0, d0, e0, c0, _⟩, f, own, _⟩ := af j s d e c
      exact ⟨(h1 j s0 d0 e0 c0).1, f, (h1 j s0 d0 e0 c0).2.2.1, own⟩
    · obtain ⟨⟨s0, d0, e0, c0, b⟩, _⟩ := af j _ d e rfl
      obtain ⟨x, rfl⟩ := b k rfl
      exact h2 j k x e0
    · obtain ⟨⟨s0, d0, e0, c0, _⟩, _⟩ := af j s d e1 c1
      obtain ⟨⟨t0, f0, e0', c0', _⟩, _⟩ := af j' t e e2 c2
      exact h3 j j' s0 t0 d0 f0 e0 c0 e0' c0' q
  · have gpn : G p = none := by
      cases z : G p with
      | none => rfl
      | some u => rw [g'G z] at gp; cases gp
    have hG : ∀ q o', G' q = some o' → (upd G' p o) q = some o' := fun q o' z => by rw [upd_ne (ne_of_none z gp)]; exact z
    have af := after (upd G' p o) bs F' H' hG sh st' ss
    have up : ∀ {q : Addr} {o' : HO}, (upd G p o) q = some o' → (upd G' p o) q = some o' := fun {q o'} e => by
      by_cases hq : q = p
      · subst hq; rw [upd_same] at e ⊢; exact e
      · rw [upd_ne hq] at e ⊢; exact g'G e
    refine ⟨gpn, st'.sf, fun q o e => st'.sg _ _ (up e), fun q o e => st'.dj _ _ (up e), by rw [unlend_length]; exact st.len, fzs bs F' ss, ps, fun j s d e c => ?_, fun j k d e => ?_, fun j j' s t d e e1 c1 e2 c2 q => ?_⟩
    · obtain ⟨⟨s0, d0, e0, c0, _⟩, f, own, alt⟩ := af j s d e c
      have ne : ps j ≠ p := by
        rcases alt with ⟨o', z⟩ | z
        · exact ne_of_none z gp
        · intro q; rw [q, upd_same] at z; cases z
      exact ⟨(h1 j s0 d0 e0 c0).1, f, by rw [upd_ne ne]; exact (h1 j s0 d0 e0 c0).2.2.1, own⟩
    · obtain ⟨⟨s0, d0, e0, c0, b⟩, _⟩ := af j _ d e rfl
      obtain ⟨x, rfl⟩ := b k rfl
      exact h2 j k x e0
    · obtain ⟨⟨s0, d0, e0, c0, _⟩, _⟩ := af j s d e1 c1
      obtain ⟨⟨t0, f0, e0', c0', _⟩, _⟩ := af j' t e e2 c2
      exact h3 j j' s0 t0 d0 f0 e0 c0 e0' c0' q
end
/-- a call's outcome -/
def resC (fn : Fn) (ars : List Ar) (E : Nv) : R D := match lend E 0 ars with
  | none => .bad
  | some as => if once ars = true then (match fn as with
    | .val d bs => if shape as bs = true then .val d (unlend ars bs E) else .bad
    | .exc c fs bs => if shape as bs = true then .exc c fs (unlend ars bs E) else .bad
    | _ => .bad) else .bad
def resCN (fn : Fn) (ars : List Ar) (E : Nv) : R D := match lend E 0 ars with
  | none => .bad
  | some as => if once ars = true then (match fn as with
    | .new d bs => if shape as bs = true then .val d (unlend ars bs E) else .bad
    | .exc c fs bs => if shape as bs = true then .exc c fs (unlend ars bs E) else .bad
    | _ => .bad) else .bad
def fCall (fn : Fn) (fs : Nv → R (List Ar)) : Nv → R D := fun E => (fs E).bind fun as E1 => resC fn as E1
def fCallN (fn : Fn) (fs : Nv → R (List Ar)) : Nv → R D := fun E => (fs E).bind fun as E1 => resCN fn as E1
section
variable {X : Cx} {g : Gm} {W : WX} {e : Expr} {n : Nat} {fn : Fn} {fs : Nv → R (List Ar)}
theorem resC_ok {ρ : Nat → Addr} {G F H : Hp} {E : Nv} {σ : L2.St} {ars : List Ar} {vs : List V} {Q : VK} (st : StOk g ρ G E F σ H) (ra : ArsOk g F σ ars vs) (hn : vs.length = n) (q : post g W (relD g) ρ G F σ Q (resC fn ars E)) : spF g n fn vs H Q (WE W σ) := by
  unfold resC at q
  cases z : lend E 0 ars with
  | none => simp only [z] at q; exact q.elim
  | some as =>
    simp only [z] at q
    by_cases ho : once ars = true
    · rw [if_pos ho] at q
      obtain ⟨ρ', G', st', back, _⟩ := lent st ra z ho
      refine ⟨hn, ρ', G', as, F, st', ?_⟩
      revert q
      cases fn as with
      | bad => exact fun q => q
      | new d bs => exact fun q => q.elim
      | val d bs =>
        simp only
        by_cases hs : shape as bs = true
        · rw [if_pos hs]; exact fun q v F' H' st2 ss r => q v F' H' (back bs F' H' hs st2 ss) ss r
        · rw [if_neg hs]; exact fun q => q.elim
      | exc c fs bs =>
        simp only
        by_cases hs : shape as bs = true
        · rw [if_pos hs]; exact fun q dx F' H' st2 ss r => q dx F' H' (back bs F' H' hs st2 ss) ss r
        · rw [if_neg hs]; exact fun q => q.elim
    · rw [if_neg ho] at q; exact q.elim
theorem resCN_ok {ρ : Nat → Addr} {G F H : Hp} {E : Nv} {σ : L2.St} {ars : List Ar} {vs : List V} {Q : VK} (st : StOk g ρ G E F σ H) (ra : ArsOk g F σ ars vs) (hn : vs.length = n) (q : postN g W ρ G F σ Q (resCN fn ars E)) : spF g n fn vs H Q (WE W σ) := by
  unfold resCN at q
  cases z : lend E 0 ars with
  | none => simp only [z] at q; exact q.elim
  | some as =>
    simp only [z] at q
    by_cases ho : once ars = true
    · rw [if_pos ho] at q
      obtain ⟨ρ', G', st', back, back2⟩ := lent st ra z ho
      refine ⟨hn, ρ', G', as, F, st', ?_⟩
      revert q
      cases fn as with
      | bad => exact fun q => q
      | val d bs => exact fun q => q.elim
      | new d bs =>
        simp only
        by_cases hs : shape as bs = true
        · rw [if_pos hs]
          intro q p o F' H' st2 gp ow ss
          obtain ⟨gn, st3⟩ := back2 bs F' H' p o hs st2 gp ss
          exact q p o F' H' st3 gn ow ss
        · rw [if_neg hs]; exact fun q => q.elim
      | exc c fs bs =>
        simp only
        by_cases hs : shape as bs = true
        · rw [if_pos hs]; exact fun q dx F' H' st2 ss r => q dx F' H' (back bs F' H' hs st2 ss) ss r
        · rw [if_neg hs]; exact fun q => q.elim
    · rw [if_neg ho] at q; exact q.elim
end
/-- operand lists of n -/
def fAsN (n : Nat) (fs : Nv → R (List Ar)) : Nv → R (List Ar) := fs
section
variable {X : Cx} {g : Gm} {W : WX} {e : Expr} {n : Nat} {fn : Fn} {fs : List (Nv → R Ar)}
theorem fAs_len : ∀ {fs : List (Nv → R Ar)} {E E' : Nv} {as : List Ar}, fAs fs E = .val as E' → as.length = fs.length
  | [], _, _, _, h => by cases h; rfl
  | f :: fs, E, E', as, h => by
    unfold fAs at h
    cases z : f E with
    | val a E1 =>
      simp only [z, R.bind] at h
      cases z2 : fAs fs E1 with
      | val as' E2 => simp only [z2, R.bind_val] at h; cases h; simp [fAs_len z2]
      | exc _ _ _ => simp only [z2] at h; cases h
      | bad => simp only [z2] at h; cases h
    | exc _ _ _ => simp only [z] at h; cases h
    | bad => simp only [z] at h; cases h
theorem bindA {γ δ : Type} {rel2 : Hp → L2.St → γ → δ → Prop} {ρ : Nat → Addr} {G F H : Hp} {E : Nv} {σ : L2.St} {k : List Ar → Nv → R γ} {Q2 : δ → Hp → Prop} {Q1 : List V → Hp → Prop} (st : StOk g ρ G E F σ H) (h : post g W rel2 ρ G F σ Q2 ((fAs fs E).bind k))
    (cont : ∀ a E1 b F1 H1, a.length = fs.length → StOk g ρ G E1 F1 σ H1 → Same F F1 → ArsOk g F1 σ a b → post g W rel2 ρ G F1 σ Q2 (k a E1) → Q1 b H1) : tG g W (relAs g) (fAs fs) σ H Q1 := by
  refine ⟨ρ, G, E, F, st, ?_⟩
  revert h
  cases z : fAs fs E with
  | val a E1 => exact fun h b F' H' st' s r => cont a E1 b F' H' (fAs_len z) st' s r (post.mono (r := k a E1) s h)
  | exc c fs E' => exact fun h => h
  | bad => exact fun h => h
theorem bindAN {ρ : Nat → Addr} {G F H : Hp} {E : Nv} {σ : L2.St} {k : List Ar → Nv → R D} {Q2 : VK} {Q1 : List V → Hp → Prop} (st : StOk g ρ G E F σ H) (h : postN g W ρ G F σ Q2 ((fAs fs E).bind k))
    (cont : ∀ a E1 b F1 H1, a.length = fs.length → StOk g ρ G E1 F1 σ H1 → Same F F1 → ArsOk g F1 σ a b → postN g W ρ G F1 σ Q2 (k a E1) → Q1 b H1) : tG g W (relAs g) (fAs fs) σ H Q1 := by
  refine ⟨ρ, G, E, F, st, ?_⟩
  revert h
  cases z : fAs fs E with
  | val a E1 => exact fun h b F' H' st' s r => cont a E1 b F' H' (fAs_len z) st' s r (postN.mono (r := k a E1) s h)
  | exc c fs E' => exact fun h => h
  | bad => exact fun h => h
/-- f(..) -/
theorem fe_call (h : PE X e (tCallS (spF g n fn) (WE W) (tG g W (relAs g) (fAs fs)))) (hn : fs.length = n) : FE X g W e (fCall fn (fAs fs)) := peImp h fun σ H Q ⟨ρ, G, E, F, st, q⟩ =>
  bindA st q fun a E1 b F1 H1 la st1 s1 r1 q1 => resC_ok st1 r1 (by rw [← r1.length, la, hn]) q1
theorem fn_call (h : PE X e (tCallS (spF g n fn) (WE W) (tG g W (relAs g) (fAs fs)))) (hn : fs.length = n) : FN X g W e (fCallN fn (fAs fs)) := peImp h fun σ H Q ⟨ρ, G, E, F, st, q⟩ =>
  bindAN st q fun a E1 b F1 H1 la st1 s1 r1 q1 => resCN_ok st1 r1 (by rw [← r1.length, la, hn]) q1
end
end FL

namespace FL
open PySem PySem.Spec PyProof.Rows L2

/-! ## data as the library's data -/
mutual
def toPy : D → Option PyData
  | .non => some .none
  | .bl b => some (.bool b)
  | .int i => some (.int i)
  | .str s => some (.str s)
  | .tup ds => (toPyL ds).map .tuple
  | .lst ds => (toPyL ds).map .list
  | _ => none
def toPyL : List D → Option (List PyData)
  | [] => some []
  | d :: ds => (toPy d).bind fun p => (toPyL ds).map (p :: ·)
end
section
variable {g : Gm} {F H : Hp}
mutual
theorem dp_of (sf : Same F H) : ∀ {d : D} {v : V} {p : PyData}, Rep g F d v → toPy d = some p → Dp g.K H v p
  | .non, _, _, h, e => by cases (show _ = V.non from h); cases e; exact .non
  | .bl b, _, _, h, e => by cases (show _ = V.bl b from h); cases e; exact .bl b
  | .int b, _, _, h, e => by cases (show _ = V.int b from h); cases e; exact .int b
  | .str b, _, _, h, e => by cases (show _ = V.str b from h); cases e; exact .str b
  | .tup ds, _, _, h, e => by
    obtain ⟨a, xs, rfl, q, r⟩ := h
    have e : (toPyL ds).map PyData.tuple = some _ := e
    obtain ⟨ps, e1, rfl⟩ := Option.map_eq_some_iff.mp e
    exact .tup (same_t sf q) (dpl_of sf r e1)
  | .lst ds, _, _, h, e => by
    obtain ⟨a, xs, rfl, q, r⟩ := h
    have e : (toPyL ds).map PyData.list = some _ := e
    obtain ⟨ps, e1, rfl⟩ := Option.map_eq_some_iff.mp e
    exact .lst (.of (sf _ _ q)) (dpl_of sf r e1)
  | .ins _ _ _, _, _, _, e => nomatch e
  | .scr _, _, _, _, e => nomatch e
  | .ty _, _, _, _, e => nomatch e
  | .cls _, _, _, _, e => nomatch e
  | .raw _, _, _, _, e => nomatch e
theorem dpl_of (sf : Same F H) : ∀ {ds : List D} {vs : List V} {ps : List PyData}, RepL g F ds vs → toPyL ds = some ps → DpAll g.K H vs ps
  | [], _, _, h, e => by cases (show _ = [] from h); cases e; exact .nil
  | d :: ds, _, _, h, e => by
    obtain ⟨x, xs, rfl, r, t⟩ := h
    have e : (toPy d).bind (fun p => (toPyL ds).map (p :: ·)) = some _ := e
    obtain ⟨p, e1, e2⟩ := Option.bind_eq_some_iff.mp e
    obtain ⟨ps, e3, rfl⟩ := Option.map_eq_some_iff.mp e2
    exact .cons (dp_of sf r e1) (dpl_of sf t e3)
end
theorem dp_ofH (sf : Same F H) {d : D} {v : V} {p : PyData} (h : RepH g F H d v) (e : toPy d = some p) : Dp g.K H v p := by
  rcases h with h | ⟨q, o, rfl, hq, ow⟩
  · exact dp_of sf h e
  · cases d with
    | lst ds =>
      obtain ⟨xs, rfl, r⟩ := ow
      have e : (toPyL ds).map PyData.list = some _ := e
      obtain ⟨ps, e1, rfl⟩ := Option.map_eq_some_iff.mp e
      exact .lst (.of hq) (dpl_of sf r e1)
    | ins _ _ _ => cases e
    | _ => exact ow.elim
end
/-- equality of data, where the library's rule reaches -/
def dEq (d e : D) : Option Bool := match toPy d, toPy e with
  | some p, some q => if SeqAt.shaped p = true ∧ SeqAt.shaped q = true then some (PyData.eqv p q) else none
  | _, _ => none
def oEq (d e : D) : Option D := (dEq d e).map .bl
def oNe (d e : D) : Option D := (dEq d e).map fun b => .bl (!b)
def itemsOf : D → Option (List D)
  | .lst ds => some ds
  | .tup ds => some ds
  | .scr ns => some (ns.map .int)
  | _ => none
/-- d in e -/
def dIn (d : D) : D → Option Bool
  | .lst es => match toPy d, toPyL es with
    | some p, some qs => if SeqAt.shaped p = true ∧ SeqAt.shaped (.list qs) = true then some (qs.any fun z => PyData.eqv z p) else none
    | _, _ => none
  | .tup es => match toPy d, toPyL es with
    | some p, some qs => if SeqAt.shaped p = true ∧ SeqAt.shaped (.list qs) = true then some (qs.any fun z => PyData.eqv z p) else none
    | _, _ => none
  | .str y => match d with
    | .str x => some (!(Builtin.Str.occurrences y x 0 y.length 1).isEmpty)
    | _ => none
  | _ => none
def oIn (d e : D) : Option D := (dIn d e).map .bl
def oNotIn (d e : D) : Option D := (dIn d e).map fun b => .bl (!b)

/-! ## two-place operations -/
theorem iteSome {α : Type} {c : Prop} [Decidable c] {a z : α} (h : (if c then some a else none) = some z) : c ∧ a = z := by
  by_cases hc : c
  · rw [if_pos hc] at h; exact ⟨hc, Option.some.inj h⟩
  · rw [if_neg hc] at h; cases h
theorem iteSomeO {α : Type} {c : Prop} [Decidable c] {o : Option α} {z : α} (h : (if c then o else none) = some z) : c ∧ o = some z := by
  by_cases hc : c
  · rw [if_pos hc] at h; exact ⟨hc, h⟩
  · rw [if_neg hc] at h; cases h
def oAdd : D → D → Option D
  | .int i, .int j => some (.int (i + j))
  | .str a, .str b => if a.length + b.length ≤ sizeLine then some (.str (a ++ b)) else none
  | .tup a, .tup b => if a.length + b.length ≤ sizeLine then some (.tup (a ++ b)) else none
  | .lst a, .lst b => if a.length + b.length ≤ sizeLine then some (.lst (a ++ b)) else none
  | _, _ => none
def oSub : D → D → Option D
  | .int i, .int j => some (.int (i - j))
  | _, _ => none
def B64 (i : Int) : Prop := -(2 ^ 64) < i ∧ i < 2 ^ 64
def B63 (i : Int) : Prop := -(2 ^ 63) ≤ i ∧ i < 2 ^ 63
def B62 (i : Int) : Prop := -(2 ^ 62) ≤ i ∧ i < 2 ^ 62
open Classical in
noncomputable def oMul : D → D → Option D
  | .int i, .int j => if B64 i ∨ B64 j then some (.int (i * j)) else none
  | .lst ds, .int k => if B63 k ∧ ds.length * k.toNat ≤ sizeLine then some (.lst (List.replicate k.toNat ds).flatten) else none
  | _, _ => none
def oDiv : D → D → Option D
  | .int i, .int j => if 0 < j ∧ j < 1073741824 then some (.int (i / j)) else none
  | _, _ => none
def oMod : D → D → Option D
  | .int i, .int j => if 0 < j then some (.int (i % j)) else none
  | _, _ => none
def oPow : D → D → Option D
  | .int i, .int j => if 0 ≤ j ∧ j ≤ 1000000 ∧ i.natAbs < 2 ^ 64 then some (.int (i ^ j.toNat)) else none
  | _, _ => none
def oAnd : D → D → Option D
  | .int i, .int j => some (.int (Builtin.bitAnd i j))
  | _, _ => none
def oLt : D → D → Option D
  | .int i, .int j => some (.bl (decide (i < j)))
  | .str a, .str b => some (.bl (decide (a.cps.toList < b.cps.toList)))
  | _, _ => none
def oLe : D → D → Option D
  | .int i, .int j => some (.bl (decide (i ≤ j)))
  | .str a, .str b => some (.bl (!decide (b.cps.toList < a.cps.toList)))
  | _, _ => none
def oGt : D → D → Option D
  | .int i, .int j => some (.bl (decide (j < i)))
  | .str a, .str b => some (.bl (decide (b.cps.toList < a.cps.toList)))
  | _, _ => none
def oGe : D → D → Option D
  | .int i, .int j => some (.bl (decide (j ≤ i)))
  | .str a, .str b => some (.bl (!decide (a.cps.toList < b.cps.toList)))
  | _, _ => none
def isNon : D → Option Bool
  | .non => some true
  | .raw _ => none
  | _ => some false
def oIsN (d e : D) : Option D := match e with
  | .non => (isNon d).map .bl
  | _ => none
def oNotN (d e : D) : Option D := match e with
  | .non => (isNon d).map fun b => .bl (!b)
  | _ => none
def dIx {α : Type} (xs : List α) (i : Int) : Option α := atI xs i
def oIx : D → D → Option D
  | .lst ds, .int i => atI ds i
  | .tup ds, .int i => atI ds i
  | .str z, .int i => if z.length ≤ sizeLine then (atI z.cps.toList i).map fun c => .str ⟨#[c]⟩ else none
  | _, _ => none
theorem atI_rep {g : Gm} {F : Hp} {ds : List D} {xs : List V} {i : Int} {d : D} (r : RepL g F ds xs) (h : atI ds i = some d) : ∃ v, atI xs i = some v ∧ Rep g F d v := by
  unfold atI at h ⊢
  obtain ⟨j, h1, h2⟩ := Option.bind_eq_some_iff.mp h
  obtain ⟨v, a, b⟩ := r.get h2
  exact ⟨v, Option.bind_eq_some_iff.mpr ⟨j, by rw [← r.length]; exact h1, a⟩, b⟩
section
variable {g : Gm} {X : Cx}
def rAddA (K : PySem.W.Frag) : R2 := fun x y H Q => (((rI0 fun i j => .int (i + j)) x y H Q ∨ ∃ i j, x = .str i ∧ y = .str j ∧ i.length + j.length ≤ sizeLine ∧ Q (.str (i ++ j)) H) ∨ rCatA K x y H Q) ∨ rCat x y H Q
theorem opr_add : OpR X (binaryOp .Add) (rAddA X.K) := ((op_add.or op_add_str).or op_catA).or op_cat
theorem op2_add (g : Gm) : Op2 g (rAddA g.K) oAdd := by
  intro F H v u d e z Q sf rd re ho k
  cases d <;> cases e <;> try (simp [oAdd] at ho; done)
  · rename_i i j
    simp only [oAdd, Option.some.injEq] at ho
    subst ho
    rw [rd.int, re.int]
    exact .inl (.inl (.inl ⟨i, j, rfl, rfl, k _ _ _ .refl rfl⟩))
  · rename_i a b
    obtain ⟨hl, rfl⟩ := iteSome ho
    rw [rd.str, re.str]
    exact .inl (.inl (.inr ⟨a, b, rfl, rfl, hl, k _ _ _ .refl rfl⟩))
  · rename_i a b
    obtain ⟨hl, rfl⟩ := iteSome ho
    obtain ⟨p, xs, rfl, hx, rx⟩ := rd.tup sf
    obtain ⟨q, ys, rfl, hy, ry⟩ := re.tup sf
    refine .inl (.inr ⟨p, q, xs, ys, rfl, rfl, hx, hy, by rw [← rx.length, ← ry.length]; exact hl, fun e0 => ?_, fun n0 e0 => ?_, fun _ _ r hr => ?_⟩)
    · subst e0
      have : a = [] := List.length_eq_zero_iff.mp (by rw [rx.length]; rfl)
      subst this
      have re' : Rep g F (.tup b) (.ref q) := by rcases re with h | ⟨_, _, _, _, h⟩; exact h; exact h.elim
      exact k _ F H .refl re'
    · subst e0
      have : b = [] := List.length_eq_zero_iff.mp (by rw [ry.length]; rfl)
      subst this
      rw [List.append_nil] at k
      have rd' : Rep g F (.tup a) (.ref p) := by rcases rd with h | ⟨_, _, _, _, h⟩; exact h; exact h.elim
      exact k _ F H .refl rd'
    · exact k _ _ _ (.new _ sf hr) ⟨r, _, rfl, .of upd_same, (rx.append ry).mono (Same.new (sf.free hr))⟩
  · rename_i a b
    obtain ⟨hl, rfl⟩ := iteSome ho
    obtain ⟨p, xs, rfl, hx, rx⟩ := rd.lst sf
    obtain ⟨q, ys, rfl, hy, ry⟩ := re.lst sf
    refine .inr ⟨p, q, xs, ys, rfl, rfl, hx, hy, by rw [← rx.length, ← ry.length]; exact hl, fun r hr => ?_⟩
    exact k _ _ _ (.new _ sf hr) ⟨r, _, rfl, upd_same, (rx.append ry).mono (Same.new (sf.free hr))⟩
/-- list + list, a new one -/
def oCat : D → D → Option D
  | .lst a, .lst b => if a.length + b.length ≤ sizeLine then some (.lst (a ++ b)) else none
  | _, _ => none
theorem op2n_cat (g : Gm) : Op2N g rCat oCat := by
  intro F H v u d e z Q sf rd re ho k
  cases d <;> cases e <;> try (simp [oCat] at ho; done)
  rename_i a b
  obtain ⟨hl, rfl⟩ := iteSome ho
  obtain ⟨p, xs, rfl, hx, rx⟩ := rd.lst sf
  obtain ⟨q, ys, rfl, hy, ry⟩ := re.lst sf
  exact ⟨p, q, xs, ys, rfl, rfl, hx, hy, by rw [← rx.length, ← ry.length]; exact hl, fun r hr => k r _ hr ⟨_, rfl, rx.append ry⟩⟩
open Classical in
noncomputable def oRep : D → D → Option D
  | .lst ds, .int k => if B63 k ∧ ds.length * k.toNat ≤ sizeLine then some (.lst (List.replicate k.toNat ds).flatten) else none
  | _, _ => none
open Classical in
theorem op2n_rep (g : Gm) : Op2N g rRep oRep := by
  intro F H v u d e z Q sf rd re ho k
  cases d <;> cases e <;> try (simp [oRep] at ho; done)
  rename_i ds i
  obtain ⟨hl, rfl⟩ := iteSome ho
  obtain ⟨p, xs, rfl, hx, rx⟩ := rd.lst sf
  rw [re.int]
  exact ⟨p, i, xs, rfl, rfl, hx, hl.1.1, hl.1.2, by rw [← rx.length]; exact hl.2, fun r hr => k r _ hr ⟨_, rfl, rx.rep _⟩⟩
theorem op2_sub (g : Gm) : Op2 g (rI0 fun i j => .int (i - j)) oSub := by
  intro F H v u d e z Q sf rd re ho k
  cases d <;> cases e <;> try (simp [oSub] at ho; done)
  simp only [oSub, Option.some.injEq] at ho
  subst ho
  rw [rd.int, re.int]
  exact ⟨_, _, rfl, rfl, k _ _ _ .refl rfl⟩
def rMulA : R2 := fun x y H Q => (rI CMul fun i j => .int (i * j)) x y H Q ∨ rRep x y H Q
theorem opr_mul : OpR X (binaryOp .Mult) rMulA := op_mul.or op_rep
open Classical in
theorem op2_mul (g : Gm) : Op2 g rMulA oMul := by
  intro F H v u d e z Q sf rd re ho k
  cases d <;> cases e <;> try (simp [oMul] at ho; done)
  · obtain ⟨hc, rfl⟩ := iteSome ho
    rw [rd.int, re.int]
    exact .inl ⟨_, _, rfl, rfl, hc, k _ _ _ .refl rfl⟩
  · rename_i ds i
    obtain ⟨hl, rfl⟩ := iteSome ho
    obtain ⟨p, xs, rfl, hx, rx⟩ := rd.lst sf
    rw [re.int]
    exact .inr ⟨p, i, xs, rfl, rfl, hx, hl.1.1, hl.1.2, by rw [← rx.length]; exact hl.2, fun r hr => k _ _ _ (.new _ sf hr) ⟨r, _, rfl, upd_same, (rx.rep _).mono (Same.new (sf.free hr))⟩⟩
theorem op2_div (g : Gm) : Op2 g (rI CDiv fun i j => .int (i / j)) oDiv := by
  intro F H v u d e z Q sf rd re ho k
  cases d <;> cases e <;> try (simp [oDiv] at ho; done)
  obtain ⟨hc, rfl⟩ := iteSome ho
  rw [rd.int, re.int]
  exact ⟨_, _, rfl, rfl, hc, k _ _ _ .refl rfl⟩
theorem op2_mod (g : Gm) : Op2 g (rI (fun _ j => 0 < j) fun i j => .int (i % j)) oMod := by
  intro F H v u d e z Q sf rd re ho k
  cases d <;> cases e <;> try (simp [oMod] at ho; done)
  obtain ⟨hc, rfl⟩ := iteSome ho
  rw [rd.int, re.int]
  exact ⟨_, _, rfl, rfl, hc, k _ _ _ .refl rfl⟩
theorem op2_pow (g : Gm) : Op2 g (rI CPow fun i j => .int (i ^ j.toNat)) oPow := by
  intro F H v u d e z Q sf rd re ho k
  cases d <;> cases e <;> try (simp [oPow] at ho; done)
  obtain ⟨hc, rfl⟩ := iteSome ho
  rw [rd.int, re.int]
  exact ⟨_, _, rfl, rfl, hc, k _ _ _ .refl rfl⟩
theorem op2_and (g : Gm) : Op2 g (rI0 fun i j => .int (Builtin.bitAnd i j)) oAnd := by
  intro F H v u d e z Q sf rd re ho k
  cases d <;> cases e <;> try (simp [oAnd] at ho; done)
  simp only [oAnd, Option.some.injEq] at ho
  subst ho
  rw [rd.int, re.int]
  exact ⟨_, _, rfl, rfl, k _ _ _ .refl rfl⟩
def rCmpA (p : Int → Int → Bool) (q : Str → Str → Bool) : R2 := fun x y H Q => (rI0 fun i j => .bl (p i j)) x y H Q ∨ ∃ i j, x = .str i ∧ y = .str j ∧ Q (.bl (q i j)) H
theorem op2_cmp (g : Gm) {p : Int → Int → Bool} {q : Str → Str → Bool} {o : D → D → Option D} (h1 : ∀ i j, o (.int i) (.int j) = some (.bl (p i j))) (h2 : ∀ i j, o (.str i) (.str j) = some (.bl (q i j)))
    (h3 : ∀ d e z, o d e = some z → (∃ i j, d = .int i ∧ e = .int j) ∨ ∃ i j, d = .str i ∧ e = .str j) : Op2 g (rCmpA p q) o := by
  intro F H v u d e z Q sf rd re ho k
  rcases h3 d e z ho with ⟨i, j, rfl, rfl⟩ | ⟨i, j, rfl, rfl⟩
  · rw [h1] at ho; cases ho
    rw [rd.int, re.int]
    exact .inl ⟨_, _, rfl, rfl, k _ _ _ .refl rfl⟩
  · rw [h2] at ho; cases ho
    rw [rd.str, re.str]
    exact .inr ⟨_, _, rfl, rfl, k _ _ _ .refl rfl⟩
theorem opr_lt : OpR X (compareOp .Lt) (rCmpA (fun i j => decide (i < j)) fun i j => decide (i.cps.toList < j.cps.toList)) := op_lt.or op_lt_str
theorem opr_le : OpR X (compareOp .LtE) (rCmpA (fun i j => decide (i ≤ j)) fun i j => !decide (j.cps.toList < i.cps.toList)) := op_le.or op_le_str
theorem opr_gt : OpR X (compareOp .Gt) (rCmpA (fun i j => decide (j < i)) fun i j => decide (j.cps.toList < i.cps.toList)) := op_gt.or op_gt_str
theorem opr_ge : OpR X (compareOp .GtE) (rCmpA (fun i j => decide (j ≤ i)) fun i j => !decide (i.cps.toList < j.cps.toList)) := op_ge.or op_ge_str
theorem op2_lt (g : Gm) : Op2 g (rCmpA (fun i j => decide (i < j)) fun i j => decide (i.cps.toList < j.cps.toList)) oLt := op2_cmp g (fun _ _ => rfl) (fun _ _ => rfl) fun d e z h => by
  cases d <;> cases e <;> first | exact .inl ⟨_, _, rfl, rfl⟩ | exact .inr ⟨_, _, rfl, rfl⟩ | cases h
theorem op2_le (g : Gm) : Op2 g (rCmpA (fun i j => decide (i ≤ j)) fun i j => !decide (j.cps.toList < i.cps.toList)) oLe := op2_cmp g (fun _ _ => rfl) (fun _ _ => rfl) fun d e z h => by
  cases d <;> cases e <;> first | exact .inl ⟨_, _, rfl, rfl⟩ | exact .inr ⟨_, _, rfl, rfl⟩ | cases h
theorem op2_gt (g : Gm) : Op2 g (rCmpA (fun i j => decide (j < i)) fun i j => decide (j.cps.toList < i.cps.toList)) oGt := op2_cmp g (fun _ _ => rfl) (fun _ _ => rfl) fun d e z h => by
  cases d <;> cases e <;> first | exact .inl ⟨_, _, rfl, rfl⟩ | exact .inr ⟨_, _, rfl, rfl⟩ | cases h
theorem op2_ge (g : Gm) : Op2 g (rCmpA (fun i j => decide (j ≤ i)) fun i j => !decide (i.cps.toList < j.cps.toList)) oGe := op2_cmp g (fun _ _ => rfl) (fun _ _ => rfl) fun d e z h => by
  cases d <;> cases e <;> first | exact .inl ⟨_, _, rfl, rfl⟩ | exact .inr ⟨_, _, rfl, rfl⟩ | cases h
theorem op2_eq (g : Gm) : Op2 g (rEqD g.K) oEq := by
  intro F H v u d e z Q sf rd re ho k
  unfold oEq dEq at ho
  split at ho
  · rename_i p q hp hq
    split at ho
    · rename_i hs
      cases ho
      exact ⟨p, q, dp_ofH sf rd hp, dp_ofH sf re hq, hs.1, hs.2, k _ _ _ .refl rfl⟩
    · cases ho
  · cases ho
theorem op2_ne (g : Gm) : Op2 g (rNeD g.K) oNe := by
  intro F H v u d e z Q sf rd re ho k
  unfold oNe dEq at ho
  split at ho
  · rename_i p q hp hq
    split at ho
    · rename_i hs
      cases ho
      exact ⟨p, q, dp_ofH sf rd hp, dp_ofH sf re hq, hs.1, hs.2, k _ _ _ .refl rfl⟩
    · cases ho
  · cases ho
def rIsNA : R2 := fun x y H Q => y = .non ∧ Q (.bl (decide (x = .non))) H
def rNotNA : R2 := fun x y H Q => y = .non ∧ Q (.bl (!decide (x = .non))) H
theorem isNon_ok {F H : Hp} {d : D} {v : V} {b : Bool} (rd : RepH g F H d v) (h : isNon d = some b) : decide (v = .non) = b := by
  cases d with
  | non => cases h; rw [rd.non]; rfl
  | bl _ => cases h; rw [rd.bl]; rfl
  | int _ => cases h; rw [rd.int]; rfl
  | str _ => cases h; rw [rd.str]; rfl
  | ty _ => cases h; rw [rd.ty]; rfl
  | cls _ => cases h; rw [rd.cls]; rfl
  | raw _ => cases h
  | tup _ => cases h; rcases rd with ⟨a, xs, e, _⟩ | ⟨_, _, _, _, e⟩; rw [e]; rfl; exact e.elim
  | scr _ => cases h; rcases rd with ⟨a, e, _⟩ | ⟨_, _, _, _, e⟩; rw [e]; rfl; exact e.elim
  | lst _ => cases h; rcases rd with ⟨a, xs, e, _⟩ | ⟨_, _, e, _⟩ <;> (rw [e]; rfl)
  | ins _ _ _ => cases h; rcases rd with ⟨a, dx, xs, e, _⟩ | ⟨_, _, e, _⟩ <;> (rw [e]; rfl)
theorem op2_isN (g : Gm) : Op2 g rIsNA oIsN := by
  intro F H v u d e z Q sf rd re ho k
  cases e <;> try (simp [oIsN] at ho; done)
  unfold oIsN at ho
  obtain ⟨b, h1, rfl⟩ := Option.map_eq_some_iff.mp ho
  exact ⟨re.non, by rw [isNon_ok rd h1]; exact k _ _ _ .refl rfl⟩
theorem op2_notN (g : Gm) : Op2 g rNotNA oNotN := by
  intro F H v u d e z Q sf rd re ho k
  cases e <;> try (simp [oNotN] at ho; done)
  unfold oNotN at ho
  obtain ⟨b, h1, rfl⟩ := Option.map_eq_some_iff.mp ho
  exact ⟨re.non, by rw [isNon_ok rd h1]; exact k _ _ _ .refl rfl⟩
/-! in -/
def rInT (K : PySem.W.Frag) : R2 := fun x y H Q => ∃ d ds, Dp K H x d ∧ Dp K H y (.tuple ds) ∧ SeqAt.shaped d = true ∧ SeqAt.shaped (.list ds) = true ∧ Q (.bl (ds.any fun z => PyData.eqv z d)) H
def rNotInT (K : PySem.W.Frag) : R2 := fun x y H Q => ∃ d ds, Dp K H x d ∧ Dp K H y (.tuple ds) ∧ SeqAt.shaped d = true ∧ SeqAt.shaped (.list ds) = true ∧ Q (.bl (!ds.any fun z => PyData.eqv z d)) H
theorem room_in' {u c : Nat} {d : PyData} {ds : List PyData} (hd : SeqAt.shaped d = true) (hu : u + 65 < c) : u + 1 + min (PyData.depthAll ds) d.depth < c := by
  have h1 : d.depth ≤ 64 := SeqAt.depth_of_shaped hd
  have h2 := Nat.min_le_right (PyData.depthAll ds) d.depth
  omega
theorem op_inT (hu : X.A.units + 65 < cLine) : OpR X (compareOp .In) (rInT X.K) := by
  intro pins s σ H x y v u Q I rx ry h
  obtain ⟨d, ds, hd, he, sd, se, q⟩ := h
  obtain ⟨as, r1⟩ := Dp.reads I d x v hd rx
  obtain ⟨bs, r2⟩ := Dp.reads I (.tuple ds) y u he ry
  exact SeqAt.in_tuple_reads r2 r1 (SeqAt.canLay_of_shaped se) (SeqAt.canLay_of_shaped sd) (room_in' sd hu) ⟨.bl _, H, I, rfl, q⟩
theorem op_notInT (hu : X.A.units + 65 < cLine) : OpR X (compareOp .NotIn) (rNotInT X.K) := by
  intro pins s σ H x y v u Q I rx ry h
  obtain ⟨d, ds, hd, he, sd, se, q⟩ := h
  obtain ⟨as, r1⟩ := Dp.reads I d x v hd rx
  obtain ⟨bs, r2⟩ := Dp.reads I (.tuple ds) y u he ry
  exact SeqAt.notIn_tuple_reads r2 r1 (SeqAt.canLay_of_shaped se) (SeqAt.canLay_of_shaped sd) (room_in' sd hu) ⟨.bl _, H, I, rfl, q⟩
def rInA (K : PySem.W.Frag) : R2 := fun x y H Q => (rInD K x y H Q ∨ rInT K x y H Q) ∨ ∃ i j, x = .str i ∧ y = .str j ∧ Q (.bl (!(Builtin.Str.occurrences j i 0 j.length 1).isEmpty)) H
def rNotInA (K : PySem.W.Frag) : R2 := fun x y H Q => (rNotInD K x y H Q ∨ rNotInT K x y H Q) ∨ ∃ i j, x = .str i ∧ y = .str j ∧ Q (.bl (!(!(Builtin.Str.occurrences j i 0 j.length 1).isEmpty))) H
theorem opr_in (hu : X.A.units + 65 < cLine) : OpR X (compareOp .In) (rInA X.K) := ((op_inD hu).or (op_inT hu)).or op_in_str
theorem opr_notIn (hu : X.A.units + 65 < cLine) : OpR X (compareOp .NotIn) (rNotInA X.K) := ((op_notInD hu).or (op_notInT hu)).or op_notin_str
theorem dIn_ok {F H : Hp} {v u : V} {d e : D} {b : Bool} (sf : Same F H) (rd : RepH g F H d v) (re : RepH g F H e u) (h : dIn d e = some b) :
    ((∃ p ds, Dp g.K H v p ∧ Dp g.K H u (.list ds) ∧ SeqAt.shaped p = true ∧ SeqAt.shaped (.list ds) = true ∧ (ds.any fun z => PyData.eqv z p) = b) ∨ (∃ p ds, Dp g.K H v p ∧ Dp g.K H u (.tuple ds) ∧ SeqAt.shaped p = true ∧ SeqAt.shaped (.list ds) = true ∧ (ds.any fun z => PyData.eqv z p) = b)) ∨
      ∃ i j, v = .str i ∧ u = .str j ∧ (!(Builtin.Str.occurrences j i 0 j.length 1).isEmpty) = b := by
  unfold dIn at h
  cases e with
  | lst es =>
    simp only at h
    split at h
    · rename_i p qs hp hq
      split at h
      · rename_i hs
        cases h
        exact .inl (.inl ⟨p, qs, dp_ofH sf rd hp, dp_ofH sf re (by show (toPyL es).map PyData.list = _; rw [hq]; rfl), hs.1, hs.2, rfl⟩)
      · cases h
    · cases h
  | tup es =>
    simp only at h
    split at h
    · rename_i p qs hp hq
      split at h
      · rename_i hs
        cases h
        exact .inl (.inr ⟨p, qs, dp_ofH sf rd hp, dp_ofH sf re (by show (toPyL es).map PyData.tuple = _; rw [hq]; rfl), hs.1, hs.2, rfl⟩)
      · cases h
    · cases h
  | str y =>
    simp only at h
    cases d <;> try (simp at h; done)
    cases h
    exact .inr ⟨_, y, rd.str, re.str, rfl⟩
  | _ => cases h
theorem op2_in (g : Gm) : Op2 g (rInA g.K) oIn := by
  intro F H v u d e z Q sf rd re ho k
  unfold oIn at ho
  obtain ⟨b, h1, rfl⟩ := Option.map_eq_some_iff.mp ho
  have q := k (.bl b) _ _ .refl rfl
  rcases dIn_ok sf rd re h1 with (⟨p, ds, a1, a2, a3, a4, rfl⟩ | ⟨p, ds, a1, a2, a3, a4, rfl⟩) | ⟨i, j, a1, a2, rfl⟩
  · exact .inl (.inl ⟨p, ds, a1, a2, a3, a4, q⟩)
  · exact .inl (.inr ⟨p, ds, a1, a2, a3, a4, q⟩)
  · exact .inr ⟨i, j, a1, a2, q⟩
theorem op2_notIn (g : Gm) : Op2 g (rNotInA g.K) oNotIn := by
  intro F H v u d e z Q sf rd re ho k
  unfold oNotIn at ho
  obtain ⟨b, h1, rfl⟩ := Option.map_eq_some_iff.mp ho
  have q := k (.bl (!b)) _ _ .refl rfl
  rcases dIn_ok sf rd re h1 with (⟨p, ds, a1, a2, a3, a4, rfl⟩ | ⟨p, ds, a1, a2, a3, a4, rfl⟩) | ⟨i, j, a1, a2, rfl⟩
  · exact .inl (.inl ⟨p, ds, a1, a2, a3, a4, q⟩)
  · exact .inl (.inr ⟨p, ds, a1, a2, a3, a4, q⟩)
  · exact .inr ⟨i, j, a1, a2, q⟩
theorem op2_ix (g : Gm) : Op2 g (rIx g.K) oIx := by
  intro F H v u d e z Q sf rd re ho k
  cases d <;> cases e <;> try (simp [oIx] at ho; done)
  · rename_i z' i
    obtain ⟨hl, ho⟩ := iteSomeO ho
    obtain ⟨c, h1, rfl⟩ := Option.map_eq_some_iff.mp ho
    rw [rd.str, re.int]
    exact .inr (.inr ⟨z', i, c, rfl, rfl, hl, h1, k _ _ _ .refl rfl⟩)
  · rename_i ds i
    obtain ⟨p, xs, rfl, hx, rx⟩ := rd.tup sf
    obtain ⟨w, h1, h2⟩ := atI_rep rx ho
    rw [re.int]
    exact .inr (.inl ⟨p, xs, i, w, rfl, rfl, hx, h1, k _ _ _ .refl h2⟩)
  · rename_i ds i
    obtain ⟨p, xs, rfl, hx, rx⟩ := rd.lst sf
    obtain ⟨w, h1, h2⟩ := atI_rep rx ho
    rw [re.int]
    exact .inl ⟨p, xs, i, w, rfl, rfl, .of hx, h1, k _ _ _ .refl h2⟩
end

/-! ## argument lists -/
def oLen : List D → Option D
  | [.lst ds] => if ds.length ≤ sizeLine then some (.int ds.length) else none
  | [.tup ds] => if ds.length ≤ sizeLine then some (.int ds.length) else none
  | [.scr ns] => if ns.length ≤ sizeLine then some (.int ns.length) else none
  | [.str z] => if z.length ≤ sizeLine then some (.int z.length) else none
  | _ => none
def asBs : List D → Option (List Bool)
  | [] => some []
  | .bl b :: r => (asBs r).map (b :: ·)
  | _ => none
def oAll : List D → Option D
  | [.lst ds] => (asBs ds).map fun bs => .bl (bs.all id)
  | _ => none
def oAny : List D → Option D
  | [.lst ds] => (asBs ds).map fun bs => .bl (bs.any id)
  | _ => none
def oTuple : List D → Option D
  | [.lst ds] => some (.tup ds)
  | [.tup ds] => some (.tup ds)
  | _ => none
def oList : List D → Option D
  | [.lst ds] => some (.lst ds)
  | [.tup ds] => some (.lst ds)
  | [.scr ns] => some (.lst (ns.map .int))
  | _ => none
def oInt : List D → Option D
  | [.int i] => some (.int i)
  | [.bl b] => some (.int (if b then 1 else 0))
  | _ => none
def oAbs : List D → Option D
  | [.int i] => some (.int (if i < 0 then -i else i))
  | _ => none
def oMin2 : List D → Option D
  | [.int i, .int j] => some (.int (if j < i then j else i))
  | _ => none
def oMax2 : List D → Option D
  | [.int i, .int j] => some (.int (if j > i then j else i))
  | _ => none
def tyName : D → Option String
  | .non => some "NoneType"
  | .bl _ => some "bool"
  | .int _ => some "int"
  | .str _ => some "str"
  | .tup _ => some "tuple"
  | .lst _ => some "list"
  | .scr _ => some "list"
  | _ => none
def subTy (a b : String) : Bool := a == b || (a == "bool" && b == "int")
def tys : List String := ["NoneType", "bool", "int", "str", "tuple", "list"]
def tgs : List String := ["bool", "int", "str", "tuple", "list", "dict"]
theorem kitB_tys : ∀ a ∈ tys, ∀ b ∈ tgs, kitB a b = some (subTy a b) := by decide +kernel
/-- isinstance of a thing for one class -/
def isiOne (x : D) : D → Option Bool
  | .ty T => match tyName x with
    | some t => if tgs.contains T = true then some (subTy t T) else none
    | none => none
  | .cls c => match x with
    | .ins c' _ _ => if c = c' then some true else none
    | _ => none
  | _ => none
def oIsi : List D → Option D
  | [x, c] => (isiOne x c).map .bl
  | _ => none
def isiAny (x : D) : List D → Option Bool
  | [] => some false
  | c :: cs => match isiOne x c with
    | some true => match isiAny x cs with
      | some _ => some true
      | none => none
    | some false => isiAny x cs
    | none => none
def oIsiT : List D → Option D
  | [x, .tup cs] => (isiAny x cs).map .bl
  | _ => none
section
variable {g : Gm} {X : Cx}
theorem opL_len (g : Gm) : OpL g (fun xs H Q => (∃ p ys, xs = [.ref p] ∧ (SqL g.K H p ys ∨ SqT g.K H p ys) ∧ Q (.int ys.length) H) ∨ ∃ z, xs = [.str z] ∧ z.length ≤ sizeLine ∧ Q (.int z.length) H) oLen := by
  intro F H vs ds z Q sf r ho k
  unfold oLen at ho
  split at ho
  · split at ho
    · cases ho
      obtain ⟨x, rfl, rx⟩ := r.one
      obtain ⟨p, xs, rfl, hx, rl⟩ := rx.lst sf
      exact .inl ⟨p, xs, rfl, .inl (.of hx), by rw [← rl.length]; exact k _ _ _ .refl rfl⟩
    · cases ho
  · split at ho
    · cases ho
      obtain ⟨x, rfl, rx⟩ := r.one
      obtain ⟨p, xs, rfl, hx, rl⟩ := rx.tup sf
      exact .inl ⟨p, xs, rfl, .inr hx, by rw [← rl.length]; exact k _ _ _ .refl rfl⟩
    · cases ho
  · split at ho
    · cases ho
      obtain ⟨x, rfl, rx⟩ := r.one
      obtain ⟨p, rfl, hx⟩ := rx.scr sf
      exact .inl ⟨p, _, rfl, .inl hx, by rw [List.length_map]; exact k _ _ _ .refl rfl⟩
    · cases ho
  · split at ho
    · rename_i hz
      cases ho
      obtain ⟨x, rfl, rx⟩ := r.one
      rw [rx.str]
      exact .inr ⟨_, rfl, hz, k _ _ _ .refl rfl⟩
    · cases ho
  · cases ho
theorem callr_len : CallR X (.builtin "len") (fun xs H Q => (∃ p ys, xs = [.ref p] ∧ (SqL X.K H p ys ∨ SqT X.K H p ys) ∧ Q (.int ys.length) H) ∨ ∃ z, xs = [.str z] ∧ z.length ≤ sizeLine ∧ Q (.int z.length) H) := call_len_seq.or call_len_str
theorem asBs_ok {F : Hp} : ∀ {ds : List D} {vs : List V} {bs : List Bool}, RepL g F ds vs → asBs ds = some bs → vs = bs.map V.bl
  | [], _, _, h, e => by cases (show _ = [] from h); cases e; rfl
  | d :: ds, _, _, h, e => by
    obtain ⟨x, xs, rfl, r, t⟩ := h
    cases d <;> try (simp [asBs] at e; done)
    rename_i b
    have e : (asBs ds).map (b :: ·) = some _ := e
    obtain ⟨bs, e1, rfl⟩ := Option.map_eq_some_iff.mp e
    rw [asBs_ok t e1, show x = V.bl b from r]
    rfl
theorem opL_all (g : Gm) : OpL g (rAll g.K) oAll := by
  intro F H vs ds z Q sf r ho k
  unfold oAll at ho
  split at ho
  · obtain ⟨bs, h1, rfl⟩ := Option.map_eq_some_iff.mp ho
    obtain ⟨x, rfl, rx⟩ := r.one
    obtain ⟨p, xs, rfl, hx, rl⟩ := rx.lst sf
    rw [asBs_ok rl h1] at hx
    exact ⟨p, bs, rfl, .of hx, k _ _ _ .refl rfl⟩
  · cases ho
theorem opL_any (g : Gm) : OpL g (rAny g.K) oAny := by
  intro F H vs ds z Q sf r ho k
  unfold oAny at ho
  split at ho
  · obtain ⟨bs, h1, rfl⟩ := Option.map_eq_some_iff.mp ho
    obtain ⟨x, rfl, rx⟩ := r.one
    obtain ⟨p, xs, rfl, hx, rl⟩ := rx.lst sf
    rw [asBs_ok rl h1] at hx
    exact ⟨p, bs, rfl, .of hx, k _ _ _ .refl rfl⟩
  · cases ho
theorem opL_tuple (g : Gm) : OpL g (fun xs H Q => ∃ p ys, xs = [.ref p] ∧ ((SqL g.K H p ys ∧ ∀ l, H l = none → Q (.ref l) (upd H l (.tup ys))) ∨ (SqT g.K H p ys ∧ Q (.ref p) H))) oTuple := by
  intro F H vs ds z Q sf r ho k
  unfold oTuple at ho
  split at ho
  · cases ho
    obtain ⟨x, rfl, rx⟩ := r.one
    obtain ⟨p, xs, rfl, hx, rl⟩ := rx.lst sf
    exact ⟨p, xs, rfl, .inl ⟨.of hx, fun l hl => k _ _ _ (.new _ sf hl) ⟨l, xs, rfl, .of upd_same, rl.mono (Same.new (sf.free hl))⟩⟩⟩
  · rename_i ts
    cases ho
    obtain ⟨x, rfl, rx⟩ := r.one
    have rx' := rx
    obtain ⟨p, xs, rfl, hx, rl⟩ := rx.tup sf
    have rx2 : Rep g F (.tup ts) (.ref p) := by rcases rx' with h | ⟨_, _, _, _, h⟩; exact h; exact h.elim
    exact ⟨p, xs, rfl, .inr ⟨hx, k _ _ _ .refl rx2⟩⟩
  · cases ho
theorem opN_list (g : Gm) : OpN g (fun xs H Q => ∃ p ys, xs = [.ref p] ∧ (SqL g.K H p ys ∨ SqT g.K H p ys) ∧ ∀ l, H l = none → Q (.ref l) (upd H l (.lst ys))) oList := by
  intro F H vs ds z Q sf r ho k
  unfold oList at ho
  split at ho
  · cases ho
    obtain ⟨x, rfl, rx⟩ := r.one
    obtain ⟨p, xs, rfl, hx, rl⟩ := rx.lst sf
    exact ⟨p, xs, rfl, .inl (.of hx), fun l hl => k _ _ hl ⟨xs, rfl, rl⟩⟩
  · cases ho
    obtain ⟨x, rfl, rx⟩ := r.one
    obtain ⟨p, xs, rfl, hx, rl⟩ := rx.tup sf
    exact ⟨p, xs, rfl, .inr hx, fun l hl => k _ _ hl ⟨xs, rfl, rl⟩⟩
  · cases ho
    obtain ⟨x, rfl, rx⟩ := r.one
    obtain ⟨p, rfl, hx⟩ := rx.scr sf
    exact ⟨p, _, rfl, .inl hx, fun l hl => k _ _ hl ⟨_, rfl, RepL.ints _⟩⟩
  · cases ho
theorem opL_int (g : Gm) : OpL g (fun xs H Q => (∃ i, xs = [.int i] ∧ Q (.int i) H) ∨ ∃ k, xs = [.bl k] ∧ Q (.int (if k then 1 else 0)) H) oInt := by
  intro F H vs ds z Q sf r ho k
  unfold oInt at ho
  split at ho
  · cases ho
    obtain ⟨x, rfl, rx⟩ := r.one
    rw [rx.int]
    exact .inl ⟨_, rfl, k _ _ _ .refl rfl⟩
  · cases ho
    obtain ⟨x, rfl, rx⟩ := r.one
    rw [rx.bl]
    exact .inr ⟨_, rfl, k _ _ _ .refl rfl⟩
  · cases ho
theorem opL_abs (g : Gm) : OpL g (fun xs H Q => ∃ i, xs = [.int i] ∧ Q (.int (if i < 0 then -i else i)) H) oAbs := by
  intro F H vs ds z Q sf r ho k
  unfold oAbs at ho
  split at ho
  · cases ho
    obtain ⟨x, rfl, rx⟩ := r.one
    rw [rx.int]
    exact ⟨_, rfl, k _ _ _ .refl rfl⟩
  · cases ho
theorem opL_min2 (g : Gm) : OpL g (fun xs H Q => ∃ i j, xs = [.int i, .int j] ∧ Q (.int (if j < i then j else i)) H) oMin2 := by
  intro F H vs ds z Q sf r ho k
  unfold oMin2 at ho
  split at ho
  · cases ho
    obtain ⟨x, y, rfl, rx, ry⟩ := r.two
    rw [rx.int, ry.int]
    exact ⟨_, _, rfl, k _ _ _ .refl rfl⟩
  · cases ho
theorem opL_max2 (g : Gm) : OpL g (fun xs H Q => ∃ i j, xs = [.int i, .int j] ∧ Q (.int (if j > i then j else i)) H) oMax2 := by
  intro F H vs ds z Q sf r ho k
  unfold oMax2 at ho
  split at ho
  · cases ho
    obtain ⟨x, y, rfl, rx, ry⟩ := r.two
    rw [rx.int, ry.int]
    exact ⟨_, _, rfl, k _ _ _ .refl rfl⟩
  · cases ho
/-! isinstance -/
theorem tyx_of {F H : Hp} {d : D} {v : V} {t : String} (sf : Same F H) (r : RepH g F H d v) (h : tyName d = some t) : TyX g.K H v (.type t) ∧ t ∈ tys := by
  have sqt : ∀ {a : Addr} {xs : List V}, SqT g.K H a xs → TyX g.K H (.ref a) (.type "tuple") := fun {a xs} q => by
    rcases q with (q | ⟨o, q⟩) | ⟨o, its, n, hk, hc, _⟩
    · exact .base (.tup q)
    · exact .fTuple q
    · exact .kTuple hk hc
  have sql : ∀ {a : Addr} {xs : List V}, SqL g.K H a xs → TyX g.K H (.ref a) (.type "list") := fun {a xs} q => by
    rcases q with (q | ⟨o, q⟩) | ⟨o, its, n, hk, hc, _⟩
    · exact .base (.lst q)
    · exact .base (.frz q)
    · exact .kList hk hc
  cases d with
  | non => cases h; rw [r.non]; exact ⟨.base .non, by decide⟩
  | bl b => cases h; rw [r.bl]; exact ⟨.base (.bl b), by decide⟩
  | int b => cases h; rw [r.int]; exact ⟨.base (.int b), by decide⟩
  | str b => cases h; rw [r.str]; exact ⟨.base (.str b), by decide⟩
  | tup ds => cases h; obtain ⟨a, xs, rfl, q, _⟩ := r.tup sf; exact ⟨sqt q, by decide⟩
  | lst ds => cases h; obtain ⟨a, xs, rfl, q, _⟩ := r.lst sf; exact ⟨.base (.lst q), by decide⟩
  | scr ns => cases h; obtain ⟨a, rfl, q⟩ := r.scr sf; exact ⟨sql q, by decide⟩
  | _ => cases h
/-- facts of the own classes: an instance's type is its class -/
structure InsTy (g : Gm) (c : Nat) : Prop where
  cl : Cls g.K (g.cls c)
  ha : PySem.W.findIn g.K (.ref (g.cls c)) "__class__" = some (some (.builtin "object.__class__"))
  hn : PySem.W.specialIn g.K (.builtin "object.__class__") "__get__" = some (some (.builtin "getset_descriptor.__get__"))
  htk : PySem.W.takesIn g.K (.builtin "object.__class__") = some true
  hm : PySem.W.mroIn g.K (g.cls c) (.type "object") = some true
def clsV (g : Gm) : D → Option (V × Value)
  | .ty T => some (.ty T, .type T)
  | .cls c => some (.ref (g.cls c), .ref (g.cls c))
  | _ => none
theorem isiOne_ok {F H : Hp} {x c : D} {v u : V} {b : Bool} (hI : ∀ c, InsTy g c) (sf : Same F H) (rx : RepH g F H x v) (rc : RepH g F H c u) (h : isiOne x c = some b) : ∃ t w, ClsV u w ∧ TyX g.K H v t ∧ PySem.W.kitOne g.K t w = some b := by
  unfold isiOne at h
  cases c with
  | ty T =>
    simp only at h
    split at h
    · rename_i t ht
      split at h
      · rename_i hT
        cases h
        obtain ⟨h1, h2⟩ := tyx_of sf rx ht
        rw [rc.ty]
        exact ⟨_, _, .ty T, h1, kit_ty (kitB_tys t h2 T (by simpa using hT))⟩
      · cases h
    · cases h
  | cls c =>
    simp only at h
    split at h
    · rename_i c' ns ds
      split at h
      · rename_i e
        cases h
        subst e
        obtain ⟨a, dx, xs, rfl, q, _⟩ := rx.ins sf
        rw [rc.cls]
        obtain ⟨cl, ha, hn, htk, hm⟩ := hI c
        exact ⟨_, _, .own _, .base (.ins q cl ha hn htk hm), by unfold PySem.W.kitOne; rw [if_pos (by simp)]⟩
      · cases h
    · cases h
  | _ => cases h
theorem opL_isi (g : Gm) (hI : ∀ c, InsTy g c) : OpL g (rIsi g.K) oIsi := by
  intro F H vs ds z Q sf r ho k
  unfold oIsi at ho
  split at ho
  · obtain ⟨b, h1, rfl⟩ := Option.map_eq_some_iff.mp ho
    obtain ⟨x, y, rfl, rx, ry⟩ := r.two
    obtain ⟨t, w, a1, a2, a3⟩ := isiOne_ok hI sf rx ry h1
    exact ⟨x, y, t, w, b, rfl, a1, a2, a3, k _ _ _ .refl rfl⟩
  · cases ho
end
end FL

namespace FL
open PySem PySem.Spec PyProof.Rows L2

/-! ## displays -/
def oTupD (ds : List D) : Option D := if ds.length ≤ sizeLine then some (.tup ds) else none
def oLstD (ds : List D) : Option D := if ds.length ≤ sizeLine then some (.lst ds) else none
section
variable {X : Cx} {g : Gm} {W : WX} {e a b c t : Expr} {es : List Expr} {pos : Pos} {st : Stmt} {ρ : Nat → Addr} {G F H : Hp} {E : Nv} {σ : L2.St}
def resV (o : List D → Option D) (E : Nv) (as : List Ar) : R D := match valsOf as with
  | none => .bad
  | some ds => R.some (o ds) E
def fOpV (o : List D → Option D) (fs : Nv → R (List Ar)) : Nv → R D := fun E => (fs E).bind fun as E1 => resV o E1 as
theorem fe_tup {fs : Nv → R (List Ar)} (h : PE X e (tTup (tG g W (relAs g) fs))) : FE X g W e (fOpV oTupD fs) := peImp h fun σ H Q ⟨ρ, G, E, F, st, q⟩ =>
  bindE st q fun as E1 vs F1 H1 st1 s1 r1 q1 => by
    unfold resV at q1
    cases z : valsOf as with
    | none => simp only [z] at q1; exact q1.elim
    | some ds =>
      simp only [z] at q1
      have rl := valsOf_ok r1 z
      unfold oTupD at q1
      by_cases hl : ds.length ≤ sizeLine
      · rw [if_pos hl] at q1
        exact ⟨by rw [← rl.length]; exact hl, fun p hp => q1 _ _ _ (st1.grow hp _) (Same.new (st1.fF hp)) ⟨p, vs, rfl, .of upd_same, rl.mono (Same.new (st1.fF hp))⟩⟩
      · rw [if_neg hl] at q1; exact q1.elim
theorem fn_lst {fs : Nv → R (List Ar)} (h : PE X e (tLst (tG g W (relAs g) fs))) : FN X g W e (fOpV oLstD fs) := peImp h fun σ H Q ⟨ρ, G, E, F, st, q⟩ =>
  bindN st q fun as E1 vs F1 H1 st1 s1 r1 q1 => by
    unfold resV at q1
    cases z : valsOf as with
    | none => simp only [z] at q1; exact q1.elim
    | some ds =>
      simp only [z] at q1
      have rl := valsOf_ok r1 z
      unfold oLstD at q1
      by_cases hl : ds.length ≤ sizeLine
      · rw [if_pos hl] at q1
        exact ⟨by rw [← rl.length]; exact hl, fun p hp => q1 _ _ F1 _ (st1.temp hp _) (st1.fG hp) ⟨vs, rfl, rl⟩ (Same.refl _)⟩
      · rw [if_neg hl] at q1; exact q1.elim

/-! ## slices -/
abbrev relP : Hp → L2.St → Option Int → Option Int → Prop := fun _ _ b c => b = c
abbrev FP (X : Cx) (g : Gm) (W : WX) (e : Option Expr) (f : Nv → R (Option Int)) : Prop := PO X e (tG g W relP f)
def pNone : Nv → R (Option Int) := fun E => .val none E
def asI : D → Option Int
  | .int i => some i
  | _ => none
def pSome (f : Nv → R D) : Nv → R (Option Int) := fun E => (f E).bind fun d E1 => match asI d with
  | some i => .val (some i) E1
  | none => .bad
theorem fp_none : FP X g W none pNone := ⟨fun pins s σ H Q I ⟨ρ, G, E, F, st, q⟩ => po_none.run pins s σ H Q I (q none F H st (Same.refl _) rfl)⟩
theorem fp_some {f : Nv → R D} (h : FE X g W e f) : FP X g W (some e) (pSome f) := ⟨fun pins s σ H Q I ⟨ρ, G, E, F, st, q⟩ => (po_some h).run pins s σ H Q I (bindE st q fun d E1 v F1 H1 st1 s1 r1 q1 => by
  cases d with
  | int i =>
    obtain rfl : v = .int i := r1
    exact ⟨i, rfl, q1 (some i) F1 H1 st1 (Same.refl _) rfl⟩
  | _ => exact q1.elim)⟩
def cutL {α : Type} (xs : List α) (lo hi : Option Int) : List α := (xs.drop (HT.sIx xs.length 0 lo)).take (HT.sIx xs.length xs.length hi - HT.sIx xs.length 0 lo)
theorem cutL_rep {ds : List D} {xs : List V} (r : RepL g F ds xs) (lo hi : Option Int) : RepL g F (cutL ds lo hi) (cutV xs lo hi) := by
  unfold cutL cutV
  rw [← r.length]
  exact (r.drop _).take _
def oSl (d : D) (lo hi : Option Int) : Option D := match d with
  | .tup ds => some (.tup (cutL ds lo hi))
  | .lst ds => some (.lst (cutL ds lo hi))
  | .scr ns => some (.lst (cutL (ns.map .int) lo hi))
  | .str z => if z.length ≤ sizeLine then some (.str (cutS z lo hi)) else none
  | _ => none
def rSlAll (K : PySem.W.Frag) : V → Option Int → Option Int → Hp → VK → Prop := fun x lo hi H Q => (rSlA K x lo hi H Q ∨ rSlL K x lo hi H Q) ∨ rSlS x lo hi H Q
theorem slr_all : SlR X (rSlAll X.K) := (sl_tupA.or sl_list).or sl_str
theorem oSl_ok {d z : D} {v : V} {lo hi : Option Int} {Q : VK} (sf : Same F H) (rd : RepH g F H d v) (ho : oSl d lo hi = some z) (k : ∀ w F' H', Grow g F H F' H' → Rep g F' z w → Q w H') : rSlAll g.K v lo hi H Q := by
  cases d with
  | tup ds =>
    cases ho
    have rd' : Rep g F (.tup ds) v := by rcases rd with h | ⟨_, _, _, _, h⟩; exact h; exact h.elim
    obtain ⟨p, xs, rfl, hx, rl⟩ := rd.tup sf
    refine .inl (.inl ⟨p, xs, rfl, hx, fun hw => ?_, fun _ l hl => ?_⟩)
    · have e : cutL ds lo hi = ds := by
        unfold cutL
        rw [rl.length, hw.1, hw.2, List.drop_zero, Nat.sub_zero]
        exact List.take_of_length_le (by rw [rl.length]; exact Nat.le_refl _)
      rw [e] at k
      exact k _ _ _ .refl rd'
    · exact k _ _ _ (.new _ sf hl) ⟨l, _, rfl, .of upd_same, (cutL_rep rl lo hi).mono (Same.new (sf.free hl))⟩
  | lst ds =>
    cases ho
    obtain ⟨p, xs, rfl, hx, rl⟩ := rd.lst sf
    exact .inl (.inr ⟨p, xs, rfl, .of hx, fun l hl => k _ _ _ (.new _ sf hl) ⟨l, _, rfl, upd_same, (cutL_rep rl lo hi).mono (Same.new (sf.free hl))⟩⟩)
  | scr ns =>
    cases ho
    obtain ⟨p, rfl, hx⟩ := rd.scr sf
    exact .inl (.inr ⟨p, _, rfl, hx, fun l hl => k _ _ _ (.new _ sf hl) ⟨l, _, rfl, upd_same, (cutL_rep (RepL.ints ns) lo hi).mono (Same.new (sf.free hl))⟩⟩)
  | str z =>
    obtain ⟨hl, rfl⟩ := iteSome ho
    rw [rd.str]
    exact .inr ⟨z, rfl, hl, k _ _ _ .refl rfl⟩
  | _ => cases ho
def resSl (lo hi : Option Int) (a : Ar) (E : Nv) : R D := match a.get E with
  | none => .bad
  | some d => R.some (oSl d lo hi) E
def fSl (fa : Nv → R Ar) (fl fh : Nv → R (Option Int)) : Nv → R D := fun E => (fa E).bind fun a E1 => (fl E1).bind fun lo E2 => (fh E2).bind fun hi E3 => resSl lo hi a E3
theorem fe_sl {fa : Nv → R Ar} {fl fh : Nv → R (Option Int)} (hK : X.K = g.K) (h : PE X e (tSl (rSlAll X.K) (tG g W (relA g) fa) (tG g W relP fl) (tG g W relP fh))) : FE X g W e (fSl fa fl fh) := peImp h fun σ H Q ⟨ρ, G, E, F, st, q⟩ =>
  bindE st q fun a E1 v F1 H1 st1 s1 r1 q1 => bindE st1 q1 fun lo E2 lo' F2 H2 st2 s2 r2 q2 => bindE st2 q2 fun hi E3 hi' F3 H3 st3 s3 r3 q3 => by
    obtain rfl : lo = lo' := r2
    obtain rfl : hi = hi' := r3
    unfold resSl at q3
    cases z : a.get E3 with
    | none => simp only [z] at q3; exact q3.elim
    | some d =>
      simp only [z] at q3
      cases z2 : oSl d lo hi with
      | none => simp only [z2, R.some] at q3; exact q3.elim
      | some y =>
        simp only [z2, R.some] at q3
        rw [hK]
        exact oSl_ok (g := g) st3.sf (ar_ok st3 (r1.mono (s2.trans s3)) z) z2 fun w F' H' gr r => q3 w F' H' (gr.2 _ _ _ _ st3) gr.1 r
/-- a slice of a list, a new list -/
def resSlN (lo hi : Option Int) (a : Ar) (E : Nv) : R D := match a.get E with
  | some (.lst ds) => .val (.lst (cutL ds lo hi)) E
  | some (.scr ns) => .val (.lst (cutL (ns.map .int) lo hi)) E
  | _ => .bad
def fSlN (fa : Nv → R Ar) (fl fh : Nv → R (Option Int)) : Nv → R D := fun E => (fa E).bind fun a E1 => (fl E1).bind fun lo E2 => (fh E2).bind fun hi E3 => resSlN lo hi a E3
theorem fn_sl {fa : Nv → R Ar} {fl fh : Nv → R (Option Int)} (hK : X.K = g.K) (h : PE X e (tSl (rSlL X.K) (tG g W (relA g) fa) (tG g W relP fl) (tG g W relP fh))) : FN X g W e (fSlN fa fl fh) := peImp h fun σ H Q ⟨ρ, G, E, F, st, q⟩ =>
  bindN st q fun a E1 v F1 H1 st1 s1 r1 q1 => bindN st1 q1 fun lo E2 lo' F2 H2 st2 s2 r2 q2 => bindN st2 q2 fun hi E3 hi' F3 H3 st3 s3 r3 q3 => by
    obtain rfl : lo = lo' := r2
    obtain rfl : hi = hi' := r3
    unfold resSlN at q3
    cases z : a.get E3 with
    | none => simp only [z] at q3; exact q3.elim
    | some d =>
      simp only [z] at q3
      have rd := ar_ok st3 (r1.mono (s2.trans s3)) z
      rw [hK]
      cases d with
      | lst ds =>
        obtain ⟨p, xs, rfl, hx, rl⟩ := rd.lst st3.sf
        exact ⟨p, xs, rfl, .of hx, fun l hl => q3 l _ F3 _ (st3.temp hl _) (st3.fG hl) ⟨_, rfl, cutL_rep rl lo hi⟩ (Same.refl _)⟩
      | scr ns =>
        obtain ⟨p, rfl, hx⟩ := rd.scr st3.sf
        exact ⟨p, _, rfl, hx, fun l hl => q3 l _ F3 _ (st3.temp hl _) (st3.fG hl) ⟨_, rfl, cutL_rep (RepL.ints ns) lo hi⟩ (Same.refl _)⟩
      | _ => exact q3.elim

/-! ## what is walked -/
/-- a list, a tuple, a text -/
def iAny (K : PySem.W.Frag) (tl : TE) : TI := fun σ H R => tl σ H fun x H1 => (∃ a xs, x = .ref a ∧ SqL K H1 a xs ∧ R (Itl K a) H1) ∨ (∃ a xs, x = .ref a ∧ SqT K H1 a xs ∧ R (Itt K a) H1) ∨ ∃ z, x = .str z ∧ R (Its z) H1
theorem pi_any {tg l : Expr} {tl : TE} (hl : PE X l tl) : PI X tg l (iAny X.K tl) := by
  refine ⟨fun pins s σ H R I h => ?_⟩
  refine thn (hl.run pins s σ H _ I h) fun v s1 ⟨x, H1, I1, r1, q1⟩ => ?_
  rcases q1 with ⟨a, xs, e, hq, q⟩ | ⟨a, xs, e, hq, q⟩ | ⟨z, e, q⟩
  · subst e
    cases r1
    obtain ⟨its, rv, p, hz⟩ := I1.list hq
    refine wpAny_pyIter_list p.isList ?_
    refine ⟨s1.heap.objs.size, [s1.heap.objs.size], _, _, H1, rfl, I1.kept (t' := s1.toks) fun b o e => Heap.get?_push_of_some _ e, turn_list a _, ⟨_, Heap.get?_push_size _ rfl, rfl, rfl⟩, fun b hb => ?_, q⟩
    have e : b = s1.heap.objs.size := by simpa using hb
    subst e
    exact I1.fpOk (Nat.le_refl _) (I1.hok.fresh (Nat.le_refl _))
  · subst e
    cases r1
    obtain ⟨its, rv, p, hz⟩ := I1.tuple hq
    refine wpAny_pyIter_tuple (show s1.heap.IsTuple a its.toArray from p) ?_
    refine ⟨s1.heap.objs.size, [s1.heap.objs.size], _, _, H1, rfl, I1.kept (t' := s1.toks) fun b o e => Heap.get?_push_of_some _ e, turn_tuple a _, ⟨_, Heap.get?_push_size _ rfl, rfl, rfl⟩, fun b hb => ?_, q⟩
    have e : b = s1.heap.objs.size := by simpa using hb
    subst e
    exact I1.fpOk (Nat.le_refl _) (I1.hok.fresh (Nat.le_refl _))
  · subst e
    obtain ⟨t, rfl⟩ := r1
    cases ha : z.cps.all (· < 128)
    · exact wpAny_pyIter_wide ha (pi_one (tk := s1.toks) I1 _ (turn_str _ z t "str_iterator" (.inr rfl)) ⟨_, Heap.get?_push_size _ rfl, rfl, rfl⟩ q)
    · exact wpAny_pyIter_ascii ha (pi_one (tk := s1.toks) I1 _ (turn_str _ z t "str_ascii_iterator" (.inl rfl)) ⟨_, Heap.get?_push_size _ rfl, rfl, rfl⟩ q)
def itAny : D → Option (List D)
  | .lst ds => some ds
  | .tup ds => some ds
  | .scr ns => some (ns.map .int)
  | .str z => some (z.cps.toList.map fun c => .str ⟨#[c]⟩)
  | _ => none
theorem RepL.at {ds : List D} {xs : List V} {i : Nat} {x : V} : ∀ {ds : List D} {xs : List V} {i : Nat} {x : V}, RepL g F ds xs → xs[i]? = some x → ∃ d, ds[i]? = some d ∧ Rep g F d x := fun {ds xs i x} r h => by
  have hi : i < ds.length := by rw [r.length]; exact (List.getElem?_eq_some_iff.mp h).1
  obtain ⟨v, a, b⟩ := r.get (List.getElem?_eq_getElem hi)
  rw [h] at a; cases a
  exact ⟨_, List.getElem?_eq_getElem hi, b⟩
theorem walks_l {a : Addr} {ds : List D} {xs : List V} (h : SqL g.K F a xs) (r : RepL g F ds xs) : Walks g F (Itl g.K a) ds where
  goes := fun i H F2 s1 s2 hi => walk_list.goes i H (by rw [← r.length]; exact hi) ((s1.trans s2).seq h)
  stops := fun H F2 s1 s2 => by rw [r.length]; exact walk_list.stops H ((s1.trans s2).seq h)
  yields := fun i H F2 x H' s1 s2 hi y => by
    obtain ⟨e, hx⟩ := walk_list.yields i H x H' (by rw [← r.length]; exact hi) ((s1.trans s2).seq h) y
    obtain ⟨d, a, b⟩ := RepL.at (ds := ds) (xs := xs) (i := i) (x := x) r hx
    subst e
    exact ⟨d, F2, a, .refl, b.mono s1⟩
theorem walks_t {a : Addr} {ds : List D} {xs : List V} (h : SqT g.K F a xs) (r : RepL g F ds xs) : Walks g F (Itt g.K a) ds where
  goes := fun i H F2 s1 s2 hi => walk_tup.goes i H (by rw [← r.length]; exact hi) (same_t (s1.trans s2) h)
  stops := fun H F2 s1 s2 => by rw [r.length]; exact walk_tup.stops H (same_t (s1.trans s2) h)
  yields := fun i H F2 x H' s1 s2 hi y => by
    obtain ⟨e, hx⟩ := walk_tup.yields i H x H' (by rw [← r.length]; exact hi) (same_t (s1.trans s2) h) y
    obtain ⟨d, a, b⟩ := RepL.at (ds := ds) (xs := xs) (i := i) (x := x) r hx
    subst e
    exact ⟨d, F2, a, .refl, b.mono s1⟩
theorem walks_s {z : Str} : Walks g F (Its z) (z.cps.toList.map fun c => D.str ⟨#[c]⟩) where
  goes := fun i H F2 s1 s2 hi => walk_str.goes i H (by simpa using hi) trivial
  stops := fun H F2 s1 s2 => by rw [List.length_map, Array.length_toList]; exact walk_str.stops H trivial
  yields := fun i H F2 x H' s1 s2 hi y => by
    obtain ⟨e, c, hc, rfl⟩ := walk_str.yields i H x H' (by simpa using hi) trivial y
    subst e
    exact ⟨.str ⟨#[c]⟩, F2, by rw [List.getElem?_map, Array.getElem?_toList, hc]; rfl, .refl, rfl⟩
theorem walks_r {lo : Int} {n : Nat} : Walks g F (Itr lo n) ((List.range n).map fun (i : Nat) => D.int (lo + i)) where
  goes := fun i H F2 s1 s2 hi => walk_range.goes i H (by simpa using hi) trivial
  stops := fun H F2 s1 s2 => by rw [List.length_map, List.length_range]; exact walk_range.stops H trivial
  yields := fun i H F2 x H' s1 s2 hi y => by
    have hi' : i < n := by simpa using hi
    obtain ⟨e, rfl⟩ := walk_range.yields i H x H' hi' trivial y
    subst e
    exact ⟨.int (lo + i), F2, by simp [hi'], .refl, rfl⟩
/-- new pairs -/
theorem walks_pair {J : It} {n : Nat} {Gw : Hp → Prop} {fx fy : Nat → Option V} {ds : List D} (w : Walk J n Gw (YPair fx fy)) (hn : n = ds.length) (hG : ∀ H F2, Same F F2 → Same F2 H → Gw H)
    (hd : ∀ i x y, i < n → fx i = some x → fy i = some y → ∃ a b, ds[i]? = some (.tup [a, b]) ∧ Rep g F a x ∧ Rep g F b y) : Walks g F J ds where
  goes := fun i H F2 s1 s2 hi => w.goes i H (by rw [hn]; exact hi) (hG H F2 s1 s2)
  stops := fun H F2 s1 s2 => by rw [← hn]; exact w.stops H (hG H F2 s1 s2)
  yields := fun i H F2 x H' s1 s2 hi y => by
    obtain ⟨T, u, v, rfl, hT, rfl, e1, e2⟩ := w.yields i H x H' (by rw [hn]; exact hi) (hG H F2 s1 s2) y
    obtain ⟨a, b, h1, h2, h3⟩ := hd i u v (by rw [hn]; exact hi) e1 e2
    have sn : Same F2 (upd F2 T (.tup [u, v])) := Same.new (s2.free hT)
    exact ⟨_, _, h1, .new _ s2 hT, T, _, rfl, .of upd_same, ⟨u, [v], rfl, h2.mono (s1.trans sn), v, [], rfl, h3.mono (s1.trans sn), rfl⟩⟩
theorem bindI {α β : Type} {rel : Hp → L2.St → α → β → Prop} {f : Nv → R α} {k : α → Nv → R (List D)} {Q2 : It → Hp → Prop} {Q1 : β → Hp → Prop} (st : StOk g ρ G E F σ H) (h : postI g W ρ G F σ Q2 ((f E).bind k))
    (cont : ∀ a E1 b F1 H1, StOk g ρ G E1 F1 σ H1 → Same F F1 → rel F1 σ a b → postI g W ρ G F1 σ Q2 (k a E1) → Q1 b H1) : tG g W rel f σ H Q1 := by
  have mono : ∀ {F1 : Hp}, Same F F1 → ∀ {r : R (List D)}, postI g W ρ G F σ Q2 r → postI g W ρ G F1 σ Q2 r := fun {F1} s {r} h => by
    cases r with
    | val ds E' => exact fun J F' H' st q w => h J F' H' st (s.trans q) w
    | exc c fs E' => exact postX.mono s h
    | bad => exact h
  refine ⟨ρ, G, E, F, st, ?_⟩
  revert h
  cases f E with
  | val a E1 => exact fun h b F' H' st' s r => cont a E1 b F' H' st' s r (mono (r := k a E1) s h)
  | exc c fs E' => exact fun h => h
  | bad => exact fun h => h
def iAnyF (f : Nv → R D) : Nv → R (List D) := fun E => (f E).bind fun d E1 => R.some (itAny d) E1
theorem fi_any {tg : Expr} {f : Nv → R D} (hK : X.K = g.K) (h : PI X tg e (iAny X.K (tG g W (relD g) f))) : FI X g W tg e (iAnyF f) := piImp h fun σ H Q ⟨ρ, G, E, F, st, q⟩ =>
  bindI st q fun d E1 v F1 H1 st1 s1 r1 q1 => by
    rw [hK]
    cases d with
    | lst ds =>
      obtain ⟨a, xs, rfl, hx, rl⟩ := r1
      exact .inl ⟨a, xs, rfl, .of (st1.sf _ _ hx), q1 _ F1 H1 st1 (Same.refl _) (walks_l (.of hx) rl)⟩
    | tup ds =>
      obtain ⟨a, xs, rfl, hx, rl⟩ := r1
      exact .inr (.inl ⟨a, xs, rfl, same_t st1.sf hx, q1 _ F1 H1 st1 (Same.refl _) (walks_t hx rl)⟩)
    | scr ns =>
      obtain ⟨a, rfl, hx⟩ := r1
      exact .inl ⟨a, _, rfl, st1.sf.seq hx, q1 _ F1 H1 st1 (Same.refl _) (walks_l hx (RepL.ints ns))⟩
    | str z =>
      obtain rfl : v = .str z := r1
      exact .inr (.inr ⟨z, rfl, q1 _ F1 H1 st1 (Same.refl _) walks_s⟩)
    | _ => exact q1.elim
/-- the ints from lo to hi - 1 -/
def rangeD (lo : Int) (n : Nat) : List D := (List.range n).map fun (i : Nat) => D.int (lo + i)
open Classical in
noncomputable def itR : List D → Option (List D)
  | [.int j] => if B62 j then some (rangeD 0 j.toNat) else none
  | [.int i, .int j] => if B62 i ∧ B62 j then some (rangeD i (j - i).toNat) else none
  | _ => none
noncomputable def iRng (fs : Nv → R (List Ar)) : Nv → R (List D) := fun E => (fs E).bind fun as E1 => match valsOf as with
  | some ds => R.some (itR ds) E1
  | none => .bad
open Classical in
theorem fi_range1 {tg : Expr} {f : Nv → R Ar} (h : PI X tg e (iRng1 (tG g W (relAs g) (fAs [f])))) : FI X g W tg e (iRng (fAs [f])) := piImp h fun σ H Q ⟨ρ, G, E, F, st, q⟩ => by
  refine ⟨ρ, G, E, F, st, ?_⟩
  unfold iRng at q
  revert q
  cases z0 : fAs [f] E with
  | exc c fs E' => exact fun q => q
  | bad => exact fun q => q
  | val as E1 =>
    have la := fAs_len z0
    intro q vs F1 H1 st1 s1 r1
    have q : postI g W ρ G F σ Q (match valsOf as with | some ds => R.some (itR ds) E1 | none => .bad) := q
    cases z : valsOf as with
    | none => simp only [z] at q; exact q.elim
    | some ds =>
      simp only [z] at q
      have rl := valsOf_ok r1 z
      have ld : ds.length = 1 := by rw [rl.length, ← r1.length, la]; rfl
      match ds, ld with
      | [d], _ =>
        obtain ⟨x, rfl, rx⟩ : ∃ x, vs = [x] ∧ Rep g F1 d x := by
          obtain ⟨x, xs, rfl, a, b⟩ := rl
          cases (show xs = [] from b)
          exact ⟨x, rfl, a⟩
        cases d with
        | int j =>
          obtain rfl : x = .int j := rx
          have q : postI g W ρ G F σ Q (R.some (if B62 j then some (rangeD 0 j.toNat) else none) E1) := q
          by_cases hc : B62 j
          · rw [if_pos hc] at q
            exact ⟨j, rfl, hc.1, hc.2, q _ F1 H1 st1 s1 walks_r⟩
          · rw [if_neg hc] at q; exact q.elim
        | _ => exact q.elim
open Classical in
theorem fi_range2 {tg : Expr} {f f2 : Nv → R Ar} (h : PI X tg e (iRng2 (tG g W (relAs g) (fAs [f, f2])))) : FI X g W tg e (iRng (fAs [f, f2])) := piImp h fun σ H Q ⟨ρ, G, E, F, st, q⟩ => by
  refine ⟨ρ, G, E, F, st, ?_⟩
  unfold iRng at q
  revert q
  cases z0 : fAs [f, f2] E with
  | exc c fs E' => exact fun q => q
  | bad => exact fun q => q
  | val as E1 =>
    have la := fAs_len z0
    intro q vs F1 H1 st1 s1 r1
    have q : postI g W ρ G F σ Q (match valsOf as with | some ds => R.some (itR ds) E1 | none => .bad) := q
    cases z : valsOf as with
    | none => simp only [z] at q; exact q.elim
    | some ds =>
      simp only [z] at q
      have rl := valsOf_ok r1 z
      have ld : ds.length = 2 := by rw [rl.length, ← r1.length, la]; rfl
      match ds, ld with
      | [d, d2], _ =>
        obtain ⟨x, y, rfl, rx, ry⟩ : ∃ x y, vs = [x, y] ∧ Rep g F1 d x ∧ Rep g F1 d2 y := by
          obtain ⟨x, xs, rfl, a, y, ys, rfl, b, c⟩ := rl
          cases (show ys = [] from c)
          exact ⟨x, y, rfl, a, b⟩
        cases d with
        | int i =>
          cases d2 with
          | int j =>
            obtain rfl : x = .int i := rx
            obtain rfl : y = .int j := ry
            have q : postI g W ρ G F σ Q (R.some (if B62 i ∧ B62 j then some (rangeD i (j - i).toNat) else none) E1) := q
            by_cases hc : B62 i ∧ B62 j
            · rw [if_pos hc] at q
              exact ⟨i, j, rfl, ⟨hc.1.1, hc.1.2, hc.2.1, hc.2.2⟩, q _ F1 H1 st1 s1 walks_r⟩
            · rw [if_neg hc] at q; exact q.elim
          | _ => exact q.elim
        | _ => exact q.elim
/-- zip of two tuples, of two lists -/
def zipD (a b : List D) : List D := (a.zip b).map fun p => .tup [p.1, p.2]
def itZ : List D → Option (List D)
  | [.lst a, .lst b] => some (zipD a b)
  | [.tup a, .tup b] => some (zipD a b)
  | _ => none
def iZip (fs : Nv → R (List Ar)) : Nv → R (List D) := fun E => (fs E).bind fun as E1 => match valsOf as with
  | some ds => R.some (itZ ds) E1
  | none => .bad
theorem zipD_get {a b : List D} {xs ys : List V} (ra : RepL g F a xs) (rb : RepL g F b ys) (i : Nat) (x y : V) (hx : xs[i]? = some x) (hy : ys[i]? = some y) : ∃ d e, (zipD a b)[i]? = some (.tup [d, e]) ∧ Rep g F d x ∧ Rep g F e y := by
  obtain ⟨d, h1, r1⟩ := RepL.at (ds := a) (xs := xs) (i := i) (x := x) ra hx
  obtain ⟨e, h2, r2⟩ := RepL.at (ds := b) (xs := ys) (i := i) (x := y) rb hy
  refine ⟨d, e, ?_, r1, r2⟩
  unfold zipD
  rw [List.getElem?_map, List.getElem?_zip_eq_some (z := (d, e)) |>.mpr ⟨h1, h2⟩]
  rfl
theorem walk_zipT {K : PySem.W.Frag} {a b : Addr} {xs ys : List V} {n : Nat} (hn : n = min xs.length ys.length) : Walk (RZ.ItzT K a b) n (fun H => SqT K H a xs ∧ SqT K H b ys) (YPair (fun i => xs[i]?) (fun i => ys[i]?)) := by
  subst hn
  refine ⟨fun i _ hi q => ?_, fun _ q => ⟨xs, ys, q.1, q.2, by omega⟩, fun i H v H' _ q y => ?_⟩
  · have h1 : i < xs.length := by omega
    have h2 : i < ys.length := by omega
    exact ⟨xs, ys, xs[i], ys[i], q.1, q.2, by simp [h1], by simp [h2]⟩
  · obtain ⟨T, x, z, h1, h2, h3, h4, h5⟩ := y
    exact ⟨T, x, z, h1, h2, h3, h4 xs q.1, h5 ys q.2⟩
theorem fi_zip {tg : Expr} {fs : Nv → R (List Ar)} (hK : X.K = g.K) (h : PI X tg e (RZ.iZipA X.K (tG g W (relAs g) fs))) : FI X g W tg e (iZip fs) := piImp h fun σ H Q ⟨ρ, G, E, F, st, q⟩ =>
  bindI st q fun as E1 vs F1 H1 st1 s1 r1 q1 => by
    rw [hK]
    cases z : valsOf as with
    | none => simp only [z] at q1; exact q1.elim
    | some ds =>
      simp only [z] at q1
      have rl := valsOf_ok r1 z
      unfold itZ at q1
      split at q1
      · rename_i a b
        obtain ⟨x, xs, rfl, ⟨p, us, rfl, hu, ru⟩, y, ys, rfl, ⟨p', us', rfl, hu', ru'⟩, e0⟩ := rl
        cases (show ys = [] from e0)
        refine ⟨p, p', us, us', rfl, .inl ⟨.of (st1.sf _ _ hu), .of (st1.sf _ _ hu'), q1 _ F1 H1 st1 (Same.refl _) ?_⟩⟩
        exact walks_pair (walk_zip rfl) (by simp [zipD, ru.length, ru'.length]) (fun H F2 a b => ⟨.of (b _ _ (a _ _ hu)), .of (b _ _ (a _ _ hu'))⟩) fun i x y _ hx hy => zipD_get ru ru' i x y hx hy
      · rename_i a b
        obtain ⟨x, xs, rfl, ⟨p, us, rfl, hu, ru⟩, y, ys, rfl, ⟨p', us', rfl, hu', ru'⟩, e0⟩ := rl
        cases (show ys = [] from e0)
        refine ⟨p, p', us, us', rfl, .inr ⟨same_t st1.sf hu, same_t st1.sf hu', q1 _ F1 H1 st1 (Same.refl _) ?_⟩⟩
        exact walks_pair (walk_zipT rfl) (by simp [zipD, ru.length, ru'.length]) (fun H F2 a b => ⟨same_t (a.trans b) hu, same_t (a.trans b) hu'⟩) fun i x y _ hx hy => zipD_get ru ru' i x y hx hy
      · exact q1.elim

/-! ## attributes -/
def lookD : Str → List Str → List D → Option D
  | f, n :: ns, d :: ds => if f = n then some d else lookD f ns ds
  | _, _, _ => none
theorem lookD_ok {f : Str} : ∀ {ns : List Str} {ds : List D} {xs : List V} {d : D}, RepL g F ds xs → lookD f ns ds = some d → ∃ v, (ns.zip xs).lookup f = some v ∧ Rep g F d v
  | [], _, _, _, _, h => by simp [lookD] at h
  | n :: ns, [], _, _, _, h => by simp [lookD] at h
  | n :: ns, d :: ds, _, _, r, h => by
    obtain ⟨x, xs, rfl, rx, rt⟩ := r
    unfold lookD at h
    by_cases e : f = n
    · rw [if_pos e] at h; cases h
      subst e
      exact ⟨x, by simp [List.lookup], rx⟩
    · rw [if_neg e] at h
      obtain ⟨v, a, b⟩ := lookD_ok rt h
      have ne : (f == n) = false := by simpa using e
      exact ⟨v, by simp only [List.zip_cons_cons, List.lookup, ne]; exact a, b⟩
def resFld (f : Str) (a : Ar) (E : Nv) : R D := match a.get E with
  | some (.ins _ ns ds) => R.some (lookD f ns ds) E
  | _ => .bad
def fFld (f : Str) (fa : Nv → R Ar) : Nv → R D := fun E => (fa E).bind fun a E1 => resFld f a E1
theorem fe_fld {f : Str} {fa : Nv → R Ar} (hK : X.K = g.K) (hc : ∀ c, Cls g.K (g.cls c)) (hn : ∀ c, NoAttr g.K (g.cls c) f) (h : PE X e (tFld X.K (tG g W (relA g) fa) f)) : FE X g W e (fFld f fa) := peImp h fun σ H Q ⟨ρ, G, E, F, st, q⟩ =>
  bindE st q fun a E1 v F1 H1 st1 s1 r1 q1 => by
    unfold resFld at q1
    cases z : a.get E1 with
    | none => simp only [z] at q1; exact q1.elim
    | some d =>
      simp only [z] at q1
      cases d with
      | ins c ns ds =>
        simp only at q1
        cases z2 : lookD f ns ds with
        | none => simp only [z2, R.some] at q1; exact q1.elim
        | some y =>
          simp only [z2, R.some] at q1
          obtain ⟨p, dx, xs, rfl, hp, hl, rl⟩ := (ar_ok st1 r1 z).ins st1.sf
          obtain ⟨w, a1, a2⟩ := lookD_ok rl z2
          exact ⟨p, g.cls c, dx, _, w, rfl, hp, by rw [hK]; exact hc c, by rw [hK]; exact hn c, a1, q1 w F1 H1 st1 (Same.refl _) a2⟩
      | _ => exact q1.elim
def putN (f : Str) : List Str → List Str
  | [] => [f]
  | n :: ns => if n = f then n :: ns else n :: putN f ns
def putD (f : Str) (d : D) : List Str → List D → List D
  | n :: ns, x :: xs => if n = f then d :: xs else x :: putD f d ns xs
  | _, _ => [d]
theorem put_ok {f : Str} {d : D} {v : V} (rv : Rep g F d v) : ∀ {ns : List Str} {ds : List D} {xs : List V}, ns.length = xs.length → RepL g F ds xs → ∃ ys, putF f v (ns.zip xs) = (putN f ns).zip ys ∧ (putN f ns).length = ys.length ∧ RepL g F (putD f d ns ds) ys
  | [], ds, xs, hl, r => by
    have : xs = [] := List.length_eq_zero_iff.mp hl.symm
    subst this
    have : ds = [] := List.length_eq_zero_iff.mp (by rw [r.length]; rfl)
    subst this
    exact ⟨[v], rfl, rfl, v, [], rfl, rv, rfl⟩
  | n :: ns, [], xs, hl, r => by
    cases (show xs = [] from r)
    cases hl
  | n :: ns, x :: ds, _, hl, r => by
    obtain ⟨u, us, rfl, ru, rt⟩ := r
    by_cases e : n = f
    · refine ⟨v :: us, ?_, ?_, ?_⟩
      · show (if n = f then (n, v) :: ns.zip us else _) = _
        unfold putN
        rw [if_pos e, if_pos e]
        rfl
      · unfold putN; rw [if_pos e]; exact hl
      · unfold putD; rw [if_pos e]; exact ⟨v, us, rfl, rv, rt⟩
    · obtain ⟨ys, a, b, c⟩ := put_ok (f := f) (d := d) rv (ns := ns) (ds := ds) (xs := us) (by simpa using hl) rt
      refine ⟨u :: ys, ?_, ?_, ?_⟩
      · show (if n = f then _ else (n, u) :: putF f v (ns.zip us)) = _
        unfold putN
        rw [if_neg e, if_neg e, a]
        rfl
      · unfold putN; rw [if_neg e]; simp [b]
      · unfold putD; rw [if_neg e]; exact ⟨u, ys, rfl, ru, c⟩
def setFld (j : Nat) (f : Str) (d : D) (E : Nv) : R Fl := match E[j]? with
  | some s => match s.cell with
    | some (.ins c ns ds) => if ns.length < 900 then .val .nx (E.set j (s.put (.ins c (putN f ns) (putD f d ns ds)))) else .bad
    | _ => .bad
  | none => .bad
def fSetFld (j : Nat) (f : Str) (fv : Nv → R D) : Nv → R Fl := fun E => (fv E).bind fun d E1 => (fPk j E1).bind fun _ E2 => setFld j f d E2
theorem fs_setFld {j : Nat} {f : Str} {fv : Nv → R D} (hK : X.K = g.K) (hc : ∀ c, Cls g.K (g.cls c)) (hn : ∀ c, NoAttr g.K (g.cls c) f) (h : PS X st (sFld X.K (tG g W (relA g) (fPk j)) (tG g W (relD g) fv) f)) : FS X g W st (fSetFld j f fv) := psImp h fun D σ H ⟨ρ, G, E, F, st, q⟩ =>
  bindS st q fun d E1 v F1 H1 st1 s1 r1 q1 => by
    refine ⟨ρ, G, E1, F1, st1, ?_⟩
    revert q1
    cases z : fPk j E1 with
    | exc c fs E' => exact fun q1 dx F' H' st' s x => q1 dx σ F' H' st' s x
    | bad => exact fun q1 => q1
    | val a E2 =>
      obtain ⟨rfl, rfl⟩ := fPk_pk z
      intro q1 x F2 H2 st2 s2 hx
      have hx : σ[j]? = some (some x) := hx
      have q1 : postS g W ρ G F1 D (setFld j f d E2) := q1
      unfold setFld at q1
      cases z : E2[j]? with
      | none => simp only [z] at q1; exact q1.elim
      | some s =>
        simp only [z] at q1
        cases c : s.cell with
        | none => simp only [c] at q1; exact q1.elim
        | some cd =>
          simp only [c] at q1
          cases cd with
          | ins k ns ds =>
            simp only at q1
            by_cases hl : ns.length < 900
            · rw [if_pos hl] at q1
              obtain ⟨p, y, fp, _, o, hp, dx, xs, rfl, l1, rl⟩ := st2.at z c
              rw [hx] at y
              cases y
              obtain ⟨ys, a1, a2, a3⟩ := put_ok (f := f) (r1.mono s2) l1 rl
              refine ⟨p, g.cls k, dx, _, rfl, hp, by rw [hK]; exact hc k, by rw [hK]; exact hn k, ?_, ?_⟩
              · rw [List.length_zip]; omega
              · exact q1 σ F2 _ (st2.write z c hx ⟨dx, ys, by rw [a1], a2, a3⟩) s2
            · rw [if_neg hl] at q1; exact q1.elim
          | _ => exact q1.elim
end

end FL

namespace FL
open PySem PySem.Spec PyProof.Rows L2

/-! ## methods of lists -/
def mAppend : D → List D → Option (D × D)
  | .lst ds, [d] => if ds.length < sizeLine then some (.non, .lst (ds ++ [d])) else none
  | _, _ => none
def mExtend : D → List D → Option (D × D)
  | .lst ds, [.lst es] => if ds.length + es.length ≤ sizeLine then some (.non, .lst (ds ++ es)) else none
  | _, _ => none
def mPop : D → List D → Option (D × D)
  | .lst ds, [] => match ds[ds.length - 1]? with
    | some d => some (d, .lst ds.dropLast)
    | none => none
  | _, _ => none
section
variable {g : Gm}
theorem mtok_append : MtOk g rAppend mAppend := by
  intro F H p ob vs d z d' ds Q sf fp hp ow r ho k
  unfold mAppend at ho
  split at ho
  · rename_i es x
    obtain ⟨hl, e⟩ := iteSome ho
    cases e
    obtain ⟨xs, rfl, rl⟩ := ow
    obtain ⟨y, ys, rfl, ry, e0⟩ := r
    cases (show ys = [] from e0)
    exact ⟨p, xs, y, rfl, rfl, hp, by rw [← rl.length]; exact hl, k _ _ ⟨_, rfl, rl.append ⟨y, [], rfl, ry, rfl⟩⟩ rfl⟩
  · cases ho
theorem mtok_extend : MtOk g rExtend mExtend := by
  intro F H p ob vs d z d' ds Q sf fp hp ow r ho k
  unfold mExtend at ho
  split at ho
  · rename_i es fs
    obtain ⟨hl, e⟩ := iteSome ho
    cases e
    obtain ⟨xs, rfl, rl⟩ := ow
    obtain ⟨y, ys, rfl, ⟨q, us, rfl, hq, ru⟩, e0⟩ := r
    cases (show ys = [] from e0)
    exact ⟨p, q, xs, us, rfl, rfl, hp, sf _ _ hq, by rw [← rl.length, ← ru.length]; exact hl, k _ _ ⟨_, rfl, rl.append ru⟩ rfl⟩
  · cases ho
theorem mtok_pop : MtOk g rPop mPop := by
  intro F H p ob vs d z d' ds Q sf fp hp ow r ho k
  unfold mPop at ho
  split at ho
  · rename_i es
    split at ho
    · rename_i x hx
      cases ho
      obtain ⟨xs, rfl, rl⟩ := ow
      cases (show vs = [] from r)
      obtain ⟨v, a, b⟩ := rl.get hx
      exact ⟨p, xs, v, rfl, rfl, hp, by rw [← rl.length]; exact a, k _ _ ⟨_, rfl, rl.dropLast⟩ b⟩
    · cases ho
  · cases ho
end

/-! ## instances -/
section
variable {g : Gm} {ρ : Nat → Addr} {G F H : Hp} {E : Nv} {σ : L2.St} {W : WX} {X : Cx} {e : Expr}
theorem StOk.junk {p : Addr} (st : StOk g ρ G E F σ H) (h : H p = none) (o : HO) : StOk g ρ G E F σ (upd H p o) := (st.temp h o).untemp (st.fG h)
theorem StOk.push {p : Addr} {o : HO} {d : D} (st : StOk g ρ (upd G p o) E F σ H) (gn : G p = none) (ow : OwnO g F d o) : StOk g ρ G (E ++ [.own d]) F (σ ++ [some (.ref p)]) H := by
  have s1 : StOk g ρ (upd G p o) (E ++ [.no]) F (σ ++ [none]) H := st.reslot (by simp [st.len]) fun i s h => by
    by_cases hi : i < E.length
    · rw [List.getElem?_append_left hi] at h
      exact .inl ⟨h, List.getElem?_append_left (by rw [← st.len]; exact hi)⟩
    · rw [List.getElem?_append_right (by omega)] at h
      have : s ∈ [Sl.no] := List.mem_of_getElem? h
      exact .inr (.inl (by simpa using this))
  have s2 := s1.take (i := E.length) gn ow
  have e1 : (E ++ [Sl.no]).set E.length (.own d) = E ++ [.own d] := by simp
  have e2 : (σ ++ [none]).set E.length (some (.ref p)) = σ ++ [some (.ref p)] := by rw [st.len]; simp
  rw [e1, e2] at s2
  exact s2
theorem StOk.popSlot {E2 : Nv} {x : Option V} {n : Nat} (st : StOk g ρ G E2 F (σ ++ [x]) H) (hn : n = σ.length) : StOk g ρ G (E2.take n) F σ H := st.reslot (by rw [List.length_take, st.len, List.length_append]; simp; omega) fun i s h => by
  have hi : i < n := by
    have := (List.getElem?_eq_some_iff.mp h).1
    rw [List.length_take] at this
    omega
  rw [List.getElem?_take_of_lt hi] at h
  exact .inl ⟨h, (List.getElem?_append_left (by omega)).symm⟩
theorem ArsOk.push {x : Option V} : ∀ {as : List Ar} {vs : List V}, ArsOk g F σ as vs → ArsOk g F (σ ++ [x]) as vs
  | [], _, h => h
  | a :: as, _, ⟨v, vs, e, r, t⟩ => ⟨v, vs, e, by
    cases a with
    | v d => exact r
    | pk i =>
      have r : σ[i]? = some (some v) := r
      show (σ ++ [x])[i]? = some (some v)
      rw [List.getElem?_append_left (List.getElem?_eq_some_iff.mp r).1]
      exact r, t.push⟩
def resMk (c : Nat) (fn : Fn) (ars : List Ar) (E : Nv) : R D := match resC fn (.pk E.length :: ars) (E ++ [.own (.ins c [] [])]) with
  | .val .non E2 => match E2[E.length]? with
    | some (.own d) => .val d (E2.take E.length)
    | _ => .bad
  | .exc k f E2 => .exc k f (E2.take E.length)
  | _ => .bad
def fMake (c : Nat) (fn : Fn) (fs : Nv → R (List Ar)) : Nv → R D := fun E => (fs E).bind fun as E1 => resMk c fn as E1
def tMakeS (C : Addr) (sp : Sp) (Ew : L2.St → XK) (t : TA) : TE := fun σ H Q => t σ H fun vs H1 => ∀ x dx, H1 x = none → H1 dx = none → dx ≠ x →
  sp (.ref x :: vs) (upd (upd H1 dx (.own x)) x (.ins C dx [])) (fun v H2 => v = .non ∧ Q (.ref x) H2) (Ew σ)
theorem run_makeS {CX : CXT} {k : Nat} {f C : Addr} {fd : FuncData} {ps : List Str} {sp : Sp} {Ew : L2.St → XK} {pins : List (Addr × Obj)} {s : Shared} {Q : VK} {us : List Value} {vs : List V} (M : Mk X.K C f) (Fo : FnOk X.prog X.w X.K X.mg X.base CX k f fd ps sp) (hr : Room (k + 1) X.A) (hb : Binds X.K fd ps [])
    (hx : PassesAt CX X σ (Ew σ)) (I : Inv X pins σ H s) (r : Vals vs us)
    (h : ∀ x dx, H x = none → H dx = none → dx ≠ x → sp (.ref x :: vs) (upd (upd H dx (.own x)) x (.ins C dx [])) (fun v H2 => v = .non ∧ Q (.ref x) H2) (Ew σ)) :
    wpAny (model X.prog X.w) X.A (call (.ref C) us) (EP X pins σ Q) X.xe s := by
  have hq := h (s.heap.objs.size + 1) s.heap.objs.size (I.hok.fresh (Nat.le_succ _)) (I.hok.fresh (Nat.le_refl _)) (Nat.ne_of_lt (Nat.lt_succ_self _))
  have I2 := Inv.made (C := C) I
  have r2 : Vals (V.ref (s.heap.objs.size + 1) :: vs) (Value.ref (s.heap.objs.size + 1) :: us) := .cons rfl r
  have hl : (Value.ref (s.heap.objs.size + 1) :: us).length = ps.length := by
    have e := r2.length
    rw [Fo.len _ _ _ _ hq] at e
    exact e.symm
  have b := hb _ (Value.ref (s.heap.objs.size + 1) :: us) I2.kIn (by rw [List.append_nil]; exact hl)
  rw [List.append_nil] at b
  refine wpAny_call (make_map (f := f) I.kIn M.makes M.init (beq_iff_eq.mp M.fn) (codeAny_mono (Fo.run _ X.stack _ _ ⟨Value.ref (s.heap.objs.size + 1) :: us, []⟩ (Value.ref (s.heap.objs.size + 1) :: us) _ _ (Ew σ) (hr.make C us [])
    (I2.env0.make C us []) b r2 hq) fun r s' hq' => ?_))
  cases r with
  | error e => exact hx pins _ _ e s' I2 hq'
  | ok fl =>
    cases fl with
    | ret u =>
      obtain ⟨v, H', I3, rv, ev, q3⟩ := I2.after hq'
      subst ev
      exact ⟨rv, ⟨V.ref (s.heap.objs.size + 1), H', I3, rfl, q3⟩⟩
    | next => exact False.elim hq'
    | brk => exact False.elim hq'
    | cont => exact False.elim hq'
theorem pe_makeS {CX : CXT} {k : Nat} {f C : Addr} {fd : FuncData} {ps : List Str} {sp : Sp} {Ew : L2.St → XK} {x : Str} {p pos : Pos} {es : List Expr} {t : TA} (M : Mk X.K C f) (Fo : FnOk X.prog X.w X.K X.mg X.base CX k f fd ps sp) (hr : Room (k + 1) X.A) (hg : Gl X x) (hm : X.mg x = some (.ref C)) (hb : Binds X.K fd ps []) (hx : ∀ σ, PassesAt CX X σ (Ew σ))
    (ha : PA X (e :: es) t) (hdb : (x == ("__debug__" : Str)) = false := by decide) (he : starEach (e :: es) X.env = (false, eval e X.env) :: starEach es X.env := by rfl) (hpl : (backTo pos (starEach es X.env)).any (·.1) = false := by rfl) :
    PE X (.Call (.Name x p) (e :: es) [] pos) (tMakeS C sp Ew t) := by
  refine ⟨fun pins s σ H Q I h => ?_⟩
  refine wpAny_Call_Name_kw (ld_glob I hg hm ?_ hdb)
  refine PySem.W.callWith_K (h₀ := X.base) I.ok.mod.kin M.kp (thn (ha.run pos pins s σ H _ I h) fun us s1 ⟨vs, H1, I1, r, q⟩ => ⟨I1.kIn, ?_⟩) he hpl
  exact run_makeS M Fo hr hb (hx σ) I1 r q
theorem resMk_ok {c n : Nat} {fn : Fn} {ars : List Ar} {vs : List V} {Q : VK} (st : StOk g ρ G E F σ H) (ra : ArsOk g F σ ars vs) (hn : vs.length + 1 = n) (q : postN g W ρ G F σ Q (resMk c fn ars E)) :
    ∀ x dx, H x = none → H dx = none → dx ≠ x → spF g n fn (.ref x :: vs) (upd (upd H dx (.own x)) x (.ins (g.cls c) dx [])) (fun v H2 => v = .non ∧ Q (.ref x) H2) (WE W σ) := by
  intro x dx hx hdx ne
  have hx' : (upd H dx (.own x)) x = none := by rw [upd_ne (Ne.symm ne)]; exact hx
  have st1 := (st.junk hdx (.own x)).temp hx' (.ins (g.cls c) dx [])
  have gx := st.fG hx
  have st2 := st1.push (d := .ins c [] []) gx ⟨dx, [], rfl, rfl, rfl⟩
  have hl : E.length = σ.length := st.len
  have ra2 : ArsOk g F (σ ++ [some (.ref x)]) (.pk E.length :: ars) (.ref x :: vs) := ⟨_, _, rfl, by show (σ ++ [some (V.ref x)])[E.length]? = _; rw [hl]; simp, ra.push⟩
  have key : spF g n fn (.ref x :: vs) (upd (upd H dx (.own x)) x (.ins (g.cls c) dx [])) (fun v H2 => v = .non ∧ Q (.ref x) H2) (WE (fun cls d _ H => W cls d σ H) (σ ++ [some (.ref x)])) := by
    refine resC_ok (W := fun cls d _ H => W cls d σ H) st2 ra2 (by simpa using hn) ?_
    unfold resMk at q
    revert q
    cases resC fn (.pk E.length :: ars) (E ++ [.own (.ins c [] [])]) with
    | bad => exact fun q => q
    | exc k f E2 => exact fun q d' F' H' st' s xr => q d' F' H' (st'.popSlot hl) s xr
    | val d E2 =>
      cases d with
      | non =>
        simp only
        cases z : E2[E.length]? with
        | none => exact fun q => q.elim
        | some s =>
          cases s with
          | own d' =>
            intro q v F' H' st' ss r
            have lk : (σ ++ [some (V.ref x)])[E.length]? = some (some (.ref x)) := by rw [hl]; simp
            obtain ⟨p, y, f1, g1, o, hp, ow⟩ := st'.at z rfl
            rw [lk] at y
            cases y
            obtain ⟨st3, gn, ow'⟩ := st'.give z rfl lk hp
            have st4 := st3.popSlot hl
            have e3 : (E2.set E.length Sl.no).take E.length = E2.take E.length := by
              rw [List.take_set_of_le (Nat.le_refl _)]
            rw [e3] at st4
            exact ⟨r, q x o F' H' st4 gn ow' ss⟩
          | _ => exact fun q => q.elim
      | _ => exact fun q => q.elim
  exact key
theorem fn_make {c n : Nat} {fn : Fn} {fs : List (Nv → R Ar)} (h : PE X e (tMakeS (g.cls c) (spF g n fn) (WE W) (tG g W (relAs g) (fAs fs)))) (hn : fs.length + 1 = n) : FN X g W e (fMake c fn (fAs fs)) := peImp h fun σ H Q ⟨ρ, G, E, F, st, q⟩ =>
  bindAN st q fun a E1 b F1 H1 la st1 s1 r1 q1 => resMk_ok st1 r1 (by rw [← r1.length, la, hn]) q1

/-! ## an own == -/
def rEqI (C : Addr) (sp : Sp) : R2 := fun x y H Q => ∃ a b dx dy fs gs, x = .ref a ∧ y = .ref b ∧ H a = some (.ins C dx fs) ∧ H b = some (.ins C dy gs) ∧ sp [x, y] H (fun v H' => ∃ k, v = .bl k ∧ Q (.bl k) H') E0
theorem op_eqI {C f : Addr} {fd : FuncData} {ps : List Str} {n : Nat} {sp : Sp} (Fo : FnOk X.prog X.w X.K X.mg X.base (L2.CX X.prog X.w) n f fd ps sp)
    (hs : PySem.W.findIn X.K (.ref C) "__eq__" = some (some (.ref f))) (hf : PySem.W.isFn X.K (.ref f) = true) (hb : Binds X.K fd ps []) (hr : Room n X.A) : OpR X (compareOp .Eq) (rEqI C sp) := by
  intro pins s σ H x y v u Q I rx ry h
  obtain ⟨a, b, dx, dy, fs, gs, rfl, rfl, ha, hb', hsp⟩ := h
  cases rx
  cases ry
  show wpAny (model X.prog X.w) X.A (richCompare .Eq (.ref a) (.ref b)) (EP X pins σ Q) X.xe s
  obtain ⟨mA, J, _⟩ := ins_get I.hok ha
  obtain ⟨mB, J', _⟩ := ins_get I.hok hb'
  obtain ⟨od, J, _⟩ := J.look
  obtain ⟨od', J', _⟩ := J'.look
  obtain ⟨m, hF⟩ := I.fr
  have hl := Fo.len _ _ _ _ hsp
  have r2 : Vals [V.ref a, V.ref b] [Value.ref a, Value.ref b] := .cons rfl (.cons rfl .nil)
  -- the value that comes back must not be NotImplemented: ours are True and False
  refine PySem.W.cmp_K (op := .Eq) (tb := .ref C) hr.units0 hF I.ok.mod.kin J J'.type (by simp [PySem.W.notFirst]) hs hf ?_
  refine wpAny_call (codeAny_mono (Fo.run X.A X.stack s H ⟨[.ref a, .ref b], []⟩ [.ref a, .ref b] [.ref a, .ref b] _ E0 hr I.env0 (by
    have := hb s [.ref a, .ref b] I.kIn (by simpa using hl)
    simpa using this) r2 hsp) fun r s' hq => ?_)
  cases r with
  | error e => exact (passL pins σ H s e s' I hq)
  | ok fl =>
    cases fl with
    | ret w =>
      obtain ⟨z, H', I', rz, k, ez, qz⟩ := I.after hq
      subst ez
      cases rz
      exact ⟨.bl k, H', I', rfl, qz⟩
    | next => exact False.elim hq
    | brk => exact False.elim hq
    | cont => exact False.elim hq
def resEq (c : Nat) (fn : Fn) (a b : Ar) (E : Nv) : R D := match a.get E, b.get E with
  | some (.ins c1 _ _), some (.ins c2 _ _) => if c1 = c ∧ c2 = c then (resC fn [a, b] E).nox.bind fun d E2 => match asB d with
    | some k => .val (.bl k) E2
    | none => .bad else .bad
  | _, _ => .bad
def fEqI (c : Nat) (fn : Fn) (fa fb : Nv → R Ar) : Nv → R D := fun E => (fa E).bind fun a E1 => (fb E1).bind fun b E2 => resEq c fn a b E2
theorem le_eqI {c : Nat} {fn : Fn} {fa fb : Nv → R Ar} {Q : VK} (h : tG g W (relD g) (fEqI c fn fa fb) σ H Q) : tOp (rEqI (g.cls c) (spF g 2 fn)) (tG g W (relA g) fa) (tG g W (relA g) fb) σ H Q := by
  obtain ⟨ρ, G, E, F, st, q⟩ := h
  refine bindE st q fun x E1 v F1 H1 st1 s1 r1 q1 => ?_
  refine bindE st1 q1 fun y E2 u F2 H2 st2 s2 r2 q2 => ?_
  unfold resEq at q2
  cases z1 : x.get E2 with
  | none => simp only [z1] at q2; exact q2.elim
  | some d =>
    cases z2 : y.get E2 with
    | none => simp only [z1, z2] at q2; cases d <;> exact q2.elim
    | some e =>
      simp only [z1, z2] at q2
      cases d with
      | ins c1 ns ds =>
        cases e with
        | ins c2 ms es =>
          simp only at q2
          by_cases hc : c1 = c ∧ c2 = c
          · rw [if_pos hc] at q2
            obtain ⟨rfl, rfl⟩ := hc
            have rx := r1.mono s2
            obtain ⟨p, dx, xs, rfl, hp, _⟩ := (ar_ok st2 rx z1).ins st2.sf
            obtain ⟨p', dx', xs', rfl, hp', _⟩ := (ar_ok st2 r2 z2).ins st2.sf
            refine ⟨p, p', dx, dx', _, _, rfl, rfl, hp, hp', ?_⟩
            refine resC_ok (W := W0) (ars := [x, y]) st2 ⟨_, _, rfl, rx, _, _, rfl, r2, rfl⟩ rfl ?_
            revert q2
            cases resC fn [x, y] E2 with
            | bad => exact fun q => q
            | exc k f E' => exact fun q => q.elim
            | val d E' =>
              intro q v F' H' st' ss r
              have q : post g W (relD g) ρ G F2 σ Q (match asB d with | some k => .val (.bl k) E' | none => .bad) := q
              cases d with
              | bl k =>
                obtain rfl : v = .bl k := r
                exact ⟨k, rfl, q _ F' H' st' ss rfl⟩
              | _ => exact q.elim
          · rw [if_neg hc] at q2; exact q2.elim
        | _ => exact q2.elim
      | _ => exact q2.elim
theorem fe_eqI {c : Nat} {fn : Fn} {fa fb : Nv → R Ar} (h : PE X e (tOp (rEqI (g.cls c) (spF g 2 fn)) (tG g W (relA g) fa) (tG g W (relA g) fb))) : FE X g W e (fEqI c fn fa fb) := peImp h fun _ _ _ q => le_eqI q
theorem ft_eqI {c : Nat} {fn : Fn} {fa fb : Nv → R Ar} (h : PT X e (tTest (tOp (rEqI (g.cls c) (spF g 2 fn)) (tG g W (relA g) fa) (tG g W (relA g) fb)))) : FT X g W e (fTest (fEqI c fn fa fb)) := ptImp h fun _ _ _ q => le_test (fun _ _ _ => le_eqI) q
end

/-! ## enumerate -/
end FL
namespace PySem
open Sem (wp)
open AutoSeq1 (wpAny_loadPart')
theorem fl_meets_enumerate_newT (l : Addr) (items : Array Value) (n : Nat) (dct : Option Addr) (sl : Array (Option Value)) :
    Meets (Builtin.«enumerate.__new__» ⟨[.type "enumerate", .ref l], []⟩) (fun _ R s => s.heap.get? l = some { cls := .type "tuple", dict := dct, data := .seq items n, slots := sl } ∧
      R (.ok (.ret (.ref (s.heap.push { cls := .type "tuple_iterator", data := .fields #[.ref l, .int 0 0] }).objs.size)))
        { s with heap := (s.heap.push { cls := .type "tuple_iterator", data := .fields #[.ref l, .int 0 0] }).push { cls := .type "enumerate", data := .fields #[.none, .bool false, .ref s.heap.objs.size, rawInt 0, .none, .none] } }) :=
  .of_wp fun prog w A R s h => by
    obtain ⟨hp, g, d, tk, os⟩ := s; obtain ⟨hl, h⟩ := h
    have hsub := sub_enumerate
    have hL : Heap.IsTuple (Shared.heap ⟨hp, g, d, tk, os⟩) l items := ⟨_, hl, rfl, n, rfl⟩
    wp_walk using wpAny_loadPart' hl
    refine wpAny_stack_any fun st => wpAny_pure ?_
    split
    · rename_i c _ _ _ _ _
      cases (c == Value.type "enumerate")
      · wp_walk using wpAny_loadPart' hl, wpAny_pyIter_tuple hL
        exact ⟨_, rfl, h⟩
      · wp_walk using wpAny_loadPart' hl, wpAny_pyIter_tuple hL
        exact ⟨_, rfl, h⟩
    · wp_walk using wpAny_loadPart' hl, wpAny_pyIter_tuple hL
      exact ⟨_, rfl, h⟩
theorem fl_call_enumerate_tuple {prog : Program} {w : World} {A : Around} {E : Value → Shared → Prop} {s : Shared} {l : Addr} {items : Array Value} {Q : Value → Shared → Prop} (hL : s.heap.IsTuple l items)
    (h : ∀ h', IsEnum h' (s.heap.objs.size + 1) s.heap.objs.size 0 .none → h'.IsTupleIter s.heap.objs.size l 0 → h'.objs.size = s.heap.objs.size + 2 →
      (∀ b o, s.heap.get? b = some o → h'.get? b = some o) → Q (.ref (s.heap.objs.size + 1)) { s with heap := h' }) :
    wpAny (model prog w) A (call (.type "enumerate") [.ref l]) Q E s := by
  obtain ⟨⟨c, dct, dt, sl⟩, hl, hc, n, hd⟩ := hL
  replace hc : c = .type "tuple" := hc
  replace hd : dt = .seq items n := hd
  subst hc hd
  refine callType_new F.called_enumerate (by decide) (F.typeCall_enumerate_1 _) (F.newCall_enumerate_1 _) (fun obj => F.args_object_init_2 obj _) F.entry_enumerate_new
    (fl_meets_enumerate_newT l items n dct sl) ⟨hl, ?_⟩
  have hz : (s.heap.push { cls := .type "tuple_iterator", data := .fields #[.ref l, .int 0 0] }).objs.size = s.heap.objs.size + 1 := Heap.size_push ..
  show _ ∧ _
  rw [hz]
  have he : IsEnum ((s.heap.push { cls := .type "tuple_iterator", data := .fields #[.ref l, .int 0 0] }).push
      { cls := .type "enumerate", data := .fields #[.none, .bool false, .ref s.heap.objs.size, rawInt 0, .none, .none] }) (s.heap.objs.size + 1) s.heap.objs.size 0 .none := by
    have := Heap.get?_push_size (s.heap.push { cls := .type "tuple_iterator", data := .fields #[.ref l, .int 0 0] })
      (o := { cls := .type "enumerate", data := .fields #[.none, .bool false, .ref s.heap.objs.size, rawInt 0, .none, .none] }) rfl
    rw [hz] at this; exact this
  refine ⟨⟨_, he, rfl⟩, h _ he ⟨_, Heap.get?_push_of_some _ (Heap.get?_push_size _ rfl), rfl, rfl⟩ (by rw [Heap.size_push, hz]) fun b o x => Heap.get?_push_of_some _ (Heap.get?_push_of_some _ x)⟩
end PySem
namespace FL
open PySem PySem.Spec PyProof.Rows L2
def IteT (K : PySem.W.Frag) (a : Addr) : It :=
  ⟨fun i H => ∃ (xs : List V) (x : V), SqT K H a xs ∧ xs[i]? = some x, fun i H v H' => ∃ T x, v = .ref T ∧ H T = none ∧ H' = upd H T (.tup [.int (i : Nat), x]) ∧ ∀ xs, SqT K H a xs → xs[i]? = some x, fun i H => ∃ xs : List V, SqT K H a xs ∧ xs.length = i⟩
theorem turn_enumT {P : Program} {w : World} {K : PySem.W.Frag} {elts : List Expr} {kk : Nat} {tpos : Pos} (a e it : Addr) (hai : a ≠ it) (hae : a ≠ e) :
    Turn P w K (.Tuple elts kk tpos) (IteT K a) [e, it] e (fun i h => (∃ old, IsEnum h e it ((i : Nat) : Int) old) ∧ h.IsTupleIter it a i ∧ e ≠ it) where
  mem := by simp
  obj := fun i h st b hb => by
    obtain ⟨⟨old, he⟩, ⟨o, ho, hc, hd⟩, _⟩ := st
    have e' : b = e ∨ b = it := by simpa using hb
    rcases e' with z | z
    · rw [z]; exact ⟨_, he, fun v q => nomatch q⟩
    · rw [z]; exact ⟨o, ho, fun v q => by rw [hd] at q; cases q⟩
  keep := fun i h h' st k => let ⟨⟨old, he⟩, hi, hne⟩ := st; ⟨⟨old, k e (by simp) _ he⟩, hi.at fun o q => k it (by simp) o q, hne⟩
  item := by
    intro X hP hw hK hc i pins s σ H E I hf st hg
    subst hP hw hK
    obtain ⟨⟨old, he⟩, hit, hne⟩ := st
    obtain ⟨xs, x, hq, hx⟩ := hg
    obtain ⟨its, rv, p, hz⟩ := I.tuple hq
    obtain ⟨u, hu, ru⟩ := rv.get hx
    have hel : e < s.heap.objs.size := Heap.lt_size he
    have hil : it < s.heap.objs.size := by obtain ⟨_, q, _⟩ := hit; exact Heap.lt_size q
    have D := Draws.tuple (prog := X.prog) (w := X.w) (A := X.A.in1) (I.ok.hd hc) it a hai its.toArray
    have hlt : i < its.toArray.size := by
      have := (List.getElem?_eq_some_iff.mp hu).1
      simpa using this
    have pT : s.heap.IsTuple a its.toArray := p
    refine wpAny_pyNext_enum_itemD D he ⟨hit, pT⟩ hlt hne (by simp; exact ⟨hne, Ne.symm hae⟩) fun y h' tk hP ho hs' hT hsz hk => ?_
    have ey : y = u := by
      have e1 : its[i]? = some y := by simpa using hP
      rw [hu] at e1
      exact (Option.some.inj e1).symm
    subst ey
    refine ⟨_, rfl, wpAny_letOwnedTupleGo_enum (s := { s with heap := h', toks := tk + 1 }) ho fun h'' he' sb => ?_⟩
    have hT2 : h''.get? s.heap.objs.size = some { cls := .type "tuple", data := .seq #[.int i tk, y] } := (sb.2 _ (Nat.ne_of_gt hel)).trans hT
    have new : ObjOk X.prog X.w (upd H s.heap.objs.size (.tup [.int (i : Nat), x])) h'' s.heap.objs.size (.tup [.int (i : Nat), x]) :=
      ⟨by show 2 ≤ sizeLine; decide, [.int i tk, y], .cons ⟨_, rfl⟩ (.cons ru .nil), ⟨_, hT2, rfl, _, rfl⟩⟩
    have I1 : Inv X pins σ (upd H s.heap.objs.size (.tup [.int (i : Nat), x])) { s with heap := h'', toks := tk + 1 } :=
      I.turnedNew (ch := [e, it]) (fun b ob hb q => (sb.2 b (fun z => hb (by simp [z]))).trans (hk b ob (fun z => hb (by simp [z])) (fun z => hb (by simp [z])) q)) hf (Nat.le_refl _) new
    refine ⟨.ref s.heap.objs.size, _, I1, rfl, ⟨_, x, rfl, I.hok.fresh (Nat.le_refl _), rfl, fun ys hy => by rw [I.tuple_inj hy hq]; exact hx⟩, ⟨⟨y, ?_⟩, hs'.1.at fun o q => (sb.2 it (Ne.symm hne)).trans q, hne⟩, fun b hb => ?_⟩
    · have e1 : ((i + 1 : Nat) : Int) = (i : Int) + 1 := by omega
      rw [e1]; exact he'
    · have hb' : b < s.heap.objs.size := by
        have e' : b = e ∨ b = it := by simpa using hb
        rcases e' with z | z
        · rw [z]; exact hel
        · rw [z]; exact hil
      rw [upd_ne (Nat.ne_of_lt hb')]
      exact (hf b hb).1
  done := by
    intro X hP hw hK hc i pins s σ H E I hf st hg
    subst hP hw hK
    obtain ⟨⟨old, he⟩, hit, hne⟩ := st
    obtain ⟨xs, hq, hx⟩ := hg
    obtain ⟨its, rv, p, hz⟩ := I.tuple hq
    obtain ⟨f0, f1, f2, f3, f4, f5⟩ := hf it (by simp)
    have hl := rv.length
    have pT : s.heap.IsTuple a its.toArray := p
    have D := Draws.tuple (prog := X.prog) (w := X.w) (A := X.A.in1) (I.ok.hd hc) it a hai its.toArray
    have en : i = its.toArray.size := by rw [List.size_toArray, ← hl]; exact hx.symm
    refine wpAny_pyNext_enum_endD D he ⟨by rw [← en]; exact hit, pT⟩ fun h' eb => ⟨rfl, I.turned (t' := s.toks) (fun b o hb q => eb b o hb q) f0 f1 f3 f4 f5⟩
  self := fun A i s Q E st h => let ⟨⟨_, he⟩, _⟩ := st; wpAny_pyIter_enum he h
/-- enumerate of a list or of a tuple -/
def iEnumA (K : PySem.W.Frag) (ta : TA) : TI := fun σ H R => ta σ H fun vs H1 => (∃ a xs, vs = [.ref a] ∧ SqL K H1 a xs ∧ R (Ite K a) H1) ∨ ∃ a xs, vs = [.ref a] ∧ SqT K H1 a xs ∧ R (IteT K a) H1
theorem pi_enumA {X : Cx} {e : Expr} {ta : TA} {p pos tpos : Pos} {elts : List Expr} {kk : Nat} (hg : Gl X "enumerate") (hm : X.mg "enumerate" = none) (ha : PA X [e] ta) (hs : starEach [e] X.env = [(false, eval e X.env)] := by rfl) :
    PI X (.Tuple elts kk tpos) (.Call (.Name "enumerate" p) [e] [] pos) (iEnumA X.K ta) := by
  refine ⟨fun pins s σ H R I h => ?_⟩
  refine Call_ (ld_blt I hg hm boot_enumerate (PyProof.Rows.callWith_type1 (thn (ha.run pos pins s σ H _ I h) fun us s1 ⟨vs, H1, I1, r1, q1⟩ => ?_) hs rfl))
  have fp : ∀ b ∈ [s1.heap.objs.size + 1, s1.heap.objs.size], FpOk X pins H1 b := fun b hb => by
    have e' : b = s1.heap.objs.size + 1 ∨ b = s1.heap.objs.size := by simpa using hb
    have hle : s1.heap.objs.size ≤ b := by
      rcases e' with z | z
      · rw [z]; exact Nat.le_add_right _ _
      · rw [z]; exact Nat.le_refl _
    exact I1.fpOk hle (I1.hok.fresh hle)
  rcases q1 with ⟨a, xs, ex, hq, q⟩ | ⟨a, xs, ex, hq, q⟩
  · subst ex
    cases r1 with
    | cons r rr =>
      cases rr
      cases r
      obtain ⟨its, rv, p', hz⟩ := I1.list hq
      refine call_enumerate_list p'.isList fun h' he hit hsz hk => wpAny_pyIter_enum he ?_
      have I2 : Inv X pins σ H1 { s1 with heap := h' } := I1.kept (t' := s1.toks) hk
      exact ⟨s1.heap.objs.size + 1, [s1.heap.objs.size + 1, s1.heap.objs.size], _, _, H1, rfl, I2, turn_enum a (s1.heap.objs.size + 1) s1.heap.objs.size, ⟨⟨.none, he⟩, hit, Nat.succ_ne_self _⟩, fp, q⟩
  · subst ex
    cases r1 with
    | cons r rr =>
      cases rr
      cases r
      obtain ⟨its, rv, p', hz⟩ := I1.tuple hq
      have al : a < s1.heap.objs.size := p'.lt
      refine fl_call_enumerate_tuple p' fun h' he hit hsz hk => wpAny_pyIter_enum he ?_
      have I2 : Inv X pins σ H1 { s1 with heap := h' } := I1.kept (t' := s1.toks) hk
      exact ⟨s1.heap.objs.size + 1, [s1.heap.objs.size + 1, s1.heap.objs.size], _, _, H1, rfl, I2, turn_enumT a (s1.heap.objs.size + 1) s1.heap.objs.size (Nat.ne_of_lt al) (Nat.ne_of_lt (Nat.lt_succ_of_lt al)), ⟨⟨.none, he⟩, hit, Nat.succ_ne_self _⟩, fp, q⟩
theorem walk_enumT {K : PySem.W.Frag} {a : Addr} {xs : List V} : Walk (IteT K a) xs.length (fun H => SqT K H a xs) (YPair (fun i => some (.int (i : Nat))) (fun i => xs[i]?)) := by
  refine ⟨fun i _ hi q => ⟨xs, xs[i], q, by simp [hi]⟩, fun _ q => ⟨xs, q, rfl⟩, fun i H v H' _ q y => ?_⟩
  obtain ⟨T, x, h1, h2, h3, h4⟩ := y
  exact ⟨T, .int (i : Nat), x, h1, h2, h3, rfl, h4 xs q⟩
/-- pairs of a number and an item -/
def enumD : Nat → List D → List D
  | _, [] => []
  | n, d :: ds => .tup [.int (n : Nat), d] :: enumD (n + 1) ds
theorem enumD_get : ∀ {ds : List D} {n i : Nat} {d : D}, ds[i]? = some d → (enumD n ds)[i]? = some (.tup [.int ((n + i : Nat) : Int), d])
  | [], _, _, _, h => by simp at h
  | d :: ds, n, 0, _, h => by simp at h; subst h; rfl
  | d :: ds, n, i + 1, _, h => by
    have := enumD_get (n := n + 1) (i := i) (by simpa using h)
    rw [show n + 1 + i = n + (i + 1) by omega] at this
    simpa [enumD] using this
theorem enumD_length : ∀ (ds : List D) (n : Nat), (enumD n ds).length = ds.length
  | [], _ => rfl
  | _ :: ds, n => by simp [enumD, enumD_length ds]
def itE : List D → Option (List D)
  | [.lst ds] => some (enumD 0 ds)
  | [.tup ds] => some (enumD 0 ds)
  | _ => none
def iEnumF (fs : Nv → R (List Ar)) : Nv → R (List D) := fun E => (fs E).bind fun as E1 => match valsOf as with
  | some ds => R.some (itE ds) E1
  | none => .bad
theorem fi_enum {X : Cx} {g : Gm} {W : WX} {e tg : Expr} {fs : Nv → R (List Ar)} (hK : X.K = g.K) (h : PI X tg e (iEnumA X.K (tG g W (relAs g) fs))) : FI X g W tg e (iEnumF fs) := piImp h fun σ H Q ⟨ρ, G, E, F, st, q⟩ =>
  bindI st q fun as E1 vs F1 H1 st1 s1 r1 q1 => by
    rw [hK]
    cases z : valsOf as with
    | none => simp only [z] at q1; exact q1.elim
    | some ds =>
      simp only [z] at q1
      have rl := valsOf_ok r1 z
      have pairs : ∀ {a : List D} {us : List V}, RepL g F1 a us → ∀ (i : Nat) (x y : V), i < us.length → some (V.int (i : Nat)) = some x → us[i]? = some y → ∃ d e, (enumD 0 a)[i]? = some (.tup [d, e]) ∧ Rep g F1 d x ∧ Rep g F1 e y := fun {a us} ra i x y _ hx hy => by
        cases hx
        obtain ⟨d, h1, r1⟩ := RepL.at (ds := a) (xs := us) (i := i) (x := y) ra hy
        exact ⟨.int (i : Nat), d, by rw [enumD_get h1, Nat.zero_add], rfl, r1⟩
      unfold itE at q1
      split at q1
      · obtain ⟨x, xs, rfl, ⟨p, us, rfl, hu, ru⟩, e0⟩ := rl
        cases (show xs = [] from e0)
        exact .inl ⟨p, us, rfl, .of (st1.sf _ _ hu), q1 _ F1 H1 st1 (Same.refl _) (walks_pair walk_enum (by rw [enumD_length, ru.length]) (fun H F2 a b => .of (b _ _ (a _ _ hu))) fun i x y h1 h2 h3 => pairs ru i x y h1 h2 h3)⟩
      · obtain ⟨x, xs, rfl, ⟨p, us, rfl, hu, ru⟩, e0⟩ := rl
        cases (show xs = [] from e0)
        exact .inr ⟨p, us, rfl, same_t st1.sf hu, q1 _ F1 H1 st1 (Same.refl _) (walks_pair walk_enumT (by rw [enumD_length, ru.length]) (fun H F2 a b => same_t (a.trans b) hu) fun i x y h1 h2 h3 => pairs ru i x y h1 h2 h3)⟩
      · exact q1.elim
end FL

namespace FL
open PySem PySem.Spec PyProof.Rows L2

/-! ## isinstance of one of several classes -/
/-- classes that are built-in -/
def tyNames : List D → Option (List String)
  | [] => some []
  | .ty T :: r => match tyNames r with
    | some l => if tgs.contains T = true then some (T :: l) else none
    | none => none
  | _ => none
def resIsiT (a : Ar) (cs : List Ar) (E : Nv) : R D := match a.get E with
  | none => .bad
  | some x => match tyName x, valsOf cs with
    | some t, some ds => match tyNames ds with
      | some l => if ds.length ≤ sizeLine then .val (.bl (l.any fun T => subTy t T)) E else .bad
      | none => .bad
    | _, _ => .bad
def fIsiT (fx : Nv → R Ar) (fc : Nv → R (List Ar)) : Nv → R D := fun E => (fx E).bind fun a E1 => (fc E1).bind fun cs E2 => resIsiT a cs E2
section
variable {g : Gm} {F H : Hp} {W : WX} {X : Cx} {e : Expr}
theorem tyNames_ok {K : PySem.W.Frag} {t : String} (ht : t ∈ tys) : ∀ {ds : List D} {vs : List V} {l : List String}, RepL g F ds vs → tyNames ds = some l → ∃ us, Paired ClsV vs us ∧ PySem.W.kitAny K (.type t) us = some (l.any fun T => subTy t T)
  | [], _, _, r, h => by cases (show _ = [] from r); cases h; exact ⟨[], .nil, rfl⟩
  | d :: ds, _, _, r, h => by
    obtain ⟨x, xs, rfl, rx, rt⟩ := r
    cases d with
    | ty T =>
      unfold tyNames at h
      cases z : tyNames ds with
      | none => simp [z] at h
      | some l =>
        simp only [z] at h
        obtain ⟨hT, rfl⟩ := iteSome h
        obtain ⟨us, p, k⟩ := tyNames_ok (K := K) ht rt z
        obtain rfl : x = .ty T := rx
        refine ⟨.type T :: us, .cons (.ty T) p, ?_⟩
        have e := kit_ty (K := K) (kitB_tys t ht T (by simpa using hT))
        refine kitAny_cons e (fun hb => ?_) fun hb => ?_
        · rw [List.any_cons, hb, Bool.false_or]; exact k
        · rw [List.any_cons, hb, Bool.true_or]
    | _ => cases h
theorem fe_isiT {fx : Nv → R Ar} {fc : Nv → R (List Ar)} (hK : X.K = g.K) (h : PE X e (tCB (rIsiT X.K) (tCons (tG g W (relA g) fx) (tCons (tTup (tG g W (relAs g) fc)) tNil)))) : FE X g W e (fIsiT fx fc) := peImp h fun σ H Q ⟨ρ, G, E, F, st, q⟩ =>
  bindE st q fun a E1 v F1 H1 st1 s1 r1 q1 => bindE st1 q1 fun cs E2 vs F2 H2 st2 s2 r2 q2 => by
    unfold resIsiT at q2
    cases z1 : a.get E2 with
    | none => simp only [z1] at q2; exact q2.elim
    | some x =>
      simp only [z1] at q2
      cases z2 : tyName x with
      | none => simp only [z2] at q2; exact q2.elim
      | some t =>
        cases z3 : valsOf cs with
        | none => simp only [z2, z3] at q2; exact q2.elim
        | some ds =>
          simp only [z2, z3] at q2
          cases z4 : tyNames ds with
          | none => simp only [z4] at q2; exact q2.elim
          | some l =>
            simp only [z4] at q2
            have rl := valsOf_ok r2 z3
            by_cases hl : ds.length ≤ sizeLine
            · rw [if_pos hl] at q2
              obtain ⟨ty, tm⟩ := tyx_of st2.sf (ar_ok st2 (r1.mono s2) z1) z2
              obtain ⟨us, p, k⟩ := tyNames_ok (K := X.K) tm rl z4
              refine ⟨by rw [← rl.length]; exact hl, fun tp hp => ?_⟩
              have st3 := st2.grow hp (.tup vs)
              obtain ⟨ty3, _⟩ := tyx_of (g := g) st3.sf (ar_ok st3 (r1.mono (s2.trans (Same.new (st2.fF hp)))) z1) z2
              exact ⟨v, tp, vs, .type t, us, _, rfl, upd_same, p, by rw [hK]; exact ty3, k, q2 _ _ _ st3 (Same.new (st2.fF hp)) rfl⟩
            · rw [if_neg hl] at q2; exact q2.elim
end
theorem units65 {k : Nat} {A : Around} (r : Room k A) : A.units + 65 < cLine := by have := r.un; omega
/-- a def that is never called deeper -/
def fn0 : Fn := fun _ => .bad
theorem fn0_ok {P : Program} {w : World} {K : PySem.W.Frag} {mg : Str → Option Value} {base : Heap} {g : Gm} {k : Nat} {f : Addr} {fd : FuncData} {ps : List Str} (n : Nat) (hn : n = ps.length) : FnOk P w K mg base (L2.CX P w) k f fd ps (spF g n fn0) :=
  ⟨fun vs H Q E h => by rw [h.1, hn], fun A outer s H args us vs Q E hr e0 hb r h => by
    obtain ⟨_, ρ, G, as, F, st, q⟩ := h
    exact q.elim⟩
/-- a def of the text, by the facts of the written part -/
theorem fun_at {K : PySem.W.Frag} {x qual : Str} {st : Stmt} {ps : List Str} {f : Addr} {oc : Value} {od an : Option Addr} {osl : Array (Option Value)} {kV doc pm cdv ct : Value}
    (l : K.lookup f = some ⟨oc, od, .func (PySem.W.fnOf x qual (defArgs st) (defBody st) (defScope st) .none kV doc pm an cdv ct), osl⟩) (c : PySem.W.codeIn K cdv qual = true) (k : PySem.W.keepIn K (.ref f) = true)
    (h : ∀ (kV doc pm : Value) (an : Option Addr) (cdv ct : Value) (us : List Value), us.length = ps.length → bindArgs (PySem.W.fnOf x qual (defArgs st) (defBody st) (defScope st) .none kV doc pm an cdv ct) ⟨us, []⟩ = pure (ps.zip us)) :
    ∃ fd, Fun K x qual st f fd ∧ Binds K fd ps [] := ⟨_, fun_mk l c k, (fun_mk l c k).binds h⟩
end FL

namespace FL
open PySem PySem.Spec PyProof.Rows L2

/-! ## what a function on data does -/
def wp {α : Type} : R α → (α → Nv → Prop) → Prop
  | .val a E, Q => Q a E
  | _, _ => False
def wpF : FR → (D → List Sl → Prop) → Prop
  | .val d bs, Q => Q d bs
  | _, _ => False
def wpN : FR → (D → List Sl → Prop) → Prop
  | .new d bs, Q => Q d bs
  | _, _ => False
section
variable {α β : Type} {a : α} {E : Nv} {Q : α → Nv → Prop}
theorem wp_val : wp (.val a E) Q = Q a E := rfl
theorem wp_bad : wp (.bad : R α) Q = False := rfl
theorem wp_bind {r : R β} {k : β → Nv → R α} : wp (r.bind k) Q = wp r fun b E1 => wp (k b E1) Q := by cases r <;> rfl
theorem wp_nox {r : R α} : wp r.nox Q = wp r Q := by cases r <;> rfl
theorem wp_somes {a : α} : wp (R.some (some a) E) Q = Q a E := rfl
theorem wp_some {o : Option α} : wp (R.some o E) Q = ∃ a, o = some a ∧ Q a E := by
  cases o with
  | none => exact propext ⟨fun h => h.elim, fun ⟨_, h, _⟩ => nomatch h⟩
  | some a => exact propext ⟨fun h => ⟨a, rfl, h⟩, fun ⟨_, h, q⟩ => by cases h; exact q⟩
theorem wp_imp {r : R α} {Q' : α → Nv → Prop} (h : wp r Q) (i : ∀ a E, Q a E → Q' a E) : wp r Q' := by
  cases r with
  | val a E => exact i a E h
  | exc _ _ _ => exact h
  | bad => exact h
theorem wpF_imp {r : FR} {Q Q' : D → List Sl → Prop} (h : wpF r Q) (i : ∀ a E, Q a E → Q' a E) : wpF r Q' := by
  cases r with
  | val a E => exact i a E h
  | _ => exact h
theorem wp_ite {c : Prop} [Decidable c] {r s : R α} : wp (if c then r else s) Q = if c then wp r Q else wp s Q := by split <;> rfl
end
section
variable {E : Nv} {QD : D → Nv → Prop} {QB : Bool → Nv → Prop} {QA : Ar → Nv → Prop} {QL : List Ar → Nv → Prop} {QS : Fl → Nv → Prop} {QI : List D → Nv → Prop} {QP : Option Int → Nv → Prop}
  {f h : Nv → R D} {fa fb fc : Nv → R Ar} {t u : Nv → R Bool} {s s2 : Nv → R Fl} {fs : List (Nv → R Ar)} {fl : Nv → R (List Ar)} {i j : Nat} {d : D} {o o' : D → D → Option D}
theorem wp_fC : wp (fC d E) QD = QD d E := rfl
theorem wp_fV : wp (fV f E) QA = wp (f E) fun d E1 => QA (.v d) E1 := by unfold fV; rw [wp_bind]; rfl
theorem wp_fOp2 : wp (fOp2 o fa fb E) QD = wp (fa E) fun a E1 => wp (fb E1) fun b E2 => wp (res2 o E2 a b) QD := by unfold fOp2; simp only [wp_bind]
theorem wp_res2 {a b : Ar} {d e : D} (h1 : a.get E = some d) (h2 : b.get E = some e) : wp (res2 o E a b) QD = ∃ z, o d e = some z ∧ QD z E := by unfold res2; simp only [h1, h2]; exact wp_some
theorem wp_fAs0 : wp (fAs [] E) QL = QL [] E := rfl
theorem wp_fAs1 : wp (fAs (fa :: fs) E) QL = wp (fa E) fun a E1 => wp (fAs fs E1) fun as E2 => QL (a :: as) E2 := by rw [show fAs (fa :: fs) E = (fa E).bind fun a E1 => (fAs fs E1).bind fun as E2 => .val (a :: as) E2 from rfl]; simp only [wp_bind, wp_val]
theorem wp_fOpL {o : List D → Option D} : wp (fOpL o fl E) QD = wp (fl E) fun as E1 => wp (resL o E1 as) QD := by unfold fOpL; simp only [wp_bind]
theorem wp_fOpV {o : List D → Option D} : wp (fOpV o fl E) QD = wp (fl E) fun as E1 => wp (resV o E1 as) QD := by unfold fOpV; simp only [wp_bind]
theorem wp_fTest : wp (fTest f E) QB = wp (f E) fun d E1 => ∃ b, asB d = some b ∧ QB b E1 := by unfold fTest; simp only [wp_bind, wp_some]
theorem wp_fChain : wp (fChain o o' fa fb fc E) QD = wp (fa E) fun a E1 => wp (fb E1) fun b E2 => wp (res2 o E2 a b) fun z E3 => (asB z = some true ∧ wp (fc E3) fun c E4 => wp (res2 o' E4 b c) QD) ∨ (asB z = some false ∧ QD (.bl false) E3) := by
  unfold fChain
  simp only [wp_bind]
  congr; funext a E1; congr; funext b E2; congr; funext z E3
  cases h : asB z with
  | none => simp [wp]
  | some b => cases b <;> simp [wp_bind, wp_val]
theorem wp_fAnd : wp (fAnd f h E) QD = wp (f E) fun d E1 => (asB d = some true ∧ wp (h E1) QD) ∨ (asB d = some false ∧ QD (.bl false) E1) := by
  unfold fAnd
  simp only [wp_bind]
  congr; funext z E3
  cases h : asB z with
  | none => simp [wp]
  | some b => cases b <;> simp [wp]
theorem wp_fOr : wp (fOr f h E) QD = wp (f E) fun d E1 => (asB d = some false ∧ wp (h E1) QD) ∨ (asB d = some true ∧ QD (.bl true) E1) := by
  unfold fOr
  simp only [wp_bind]
  congr; funext z E3
  cases h : asB z with
  | none => simp [wp]
  | some b => cases b <;> simp [wp]
theorem wp_fNot : wp (fNot f E) QD = wp (f E) fun d E1 => ∃ b, asB d = some b ∧ QD (.bl (!b)) E1 := by
  unfold fNot
  simp only [wp_bind]
  congr; funext z E3
  cases h : asB z with
  | none => simp [wp]
  | some b => simp [wp]
theorem wp_tAndF : wp (tAndF t u E) QB = wp (t E) fun b E1 => if b = true then wp (u E1) QB else QB false E1 := by unfold tAndF; simp only [wp_bind, wp_ite, wp_val]
theorem wp_tOrF : wp (tOrF t u E) QB = wp (t E) fun b E1 => if b = true then QB true E1 else wp (u E1) QB := by unfold tOrF; simp only [wp_bind, wp_ite, wp_val]
theorem wp_tNotF : wp (tNotF t E) QB = wp (t E) fun b E1 => QB (!b) E1 := by unfold tNotF; simp only [wp_bind, wp_val]
theorem wp_fIf {α : Type} {Q : α → Nv → Prop} {f g : Nv → R α} : wp (fIf t f g E) Q = wp (t E) fun b E1 => if b = true then wp (f E1) Q else wp (g E1) Q := by unfold fIf; simp only [wp_bind, wp_ite]
/-! statements -/
theorem wp_fNx : wp (fNx E) QS = QS .nx E := rfl
theorem wp_fBad {α : Type} {Q : α → Nv → Prop} : wp (fBad E) Q = False := rfl
theorem wp_fSeq : wp (fSeq s s2 E) QS = wp (s E) fun fl E1 => match fl with
    | .nx => wp (s2 E1) QS
    | fl => QS fl E1 := by
  unfold fSeq
  cases s E with
  | val fl E1 => cases fl <;> rfl
  | _ => rfl
theorem wp_fDrop : wp (fDrop f E) QS = wp (f E) fun _ E1 => QS .nx E1 := by unfold fDrop; simp only [wp_bind, wp_val]
theorem wp_fRet : wp (fRet f E) QS = wp (f E) fun d E1 => QS (.rt d) E1 := by unfold fRet; simp only [wp_bind, wp_val]
theorem wp_fRetN : wp (fRetN f E) QS = wp (f E) fun d E1 => QS (.rn d) E1 := by unfold fRetN; simp only [wp_bind, wp_val]
theorem wp_fRet0 : wp (fRet0 E) QS = QS (.rt .non) E := rfl
theorem wp_fSet : wp (fSet i f E) QS = wp (f E) fun d E1 => QS .nx (E1.set i (.fz d)) := by unfold fSet; simp only [wp_bind, wp_val]
theorem wp_fSetN : wp (fSetN i f E) QS = wp (f E) fun d E1 => QS .nx (E1.set i (.own d)) := by unfold fSetN; simp only [wp_bind, wp_val]
theorem wp_fAsg {b : Bd} : wp (fAsg f b E) QS = wp (f E) fun d E1 => ∃ E2, b d E1 = some E2 ∧ QS .nx E2 := by
  unfold fAsg
  simp only [wp_bind]
  congr; funext d E1
  cases b d E1 <;> simp [wp]
theorem wp_fPar : wp (fPar i j f h E) QS = wp (f E) fun d E1 => wp (h E1) fun e E2 => QS .nx ((E2.set i (.fz d)).set j (.fz e)) := by unfold fPar; simp only [wp_bind, wp_val]
theorem wp_fParNE : wp (fParNE i j f h E) QS = wp (f E) fun d E1 => wp (h E1) fun e E2 => QS .nx ((E2.set i (.own d)).set j (.fz e)) := by unfold fParNE; simp only [wp_bind, wp_val]
theorem wp_fParEN : wp (fParEN i j f h E) QS = wp (f E) fun d E1 => wp (h E1) fun e E2 => QS .nx ((E2.set i (.fz d)).set j (.own e)) := by unfold fParEN; simp only [wp_bind, wp_val]
theorem wp_fSetIx : wp (fSetIx i f h E) QS = wp (h E) fun d E1 => wp (fPk i E1) fun _ E2 => wp (f E2) fun k E3 => wp (setIx i d k E3) QS := by unfold fSetIx; simp only [wp_bind]
theorem wp_fSetFld {n : Str} : wp (fSetFld i n f E) QS = wp (f E) fun d E1 => wp (fPk i E1) fun _ E2 => wp (setFld i n d E2) QS := by unfold fSetFld; simp only [wp_bind]
theorem wp_fMt {m : D → List D → Option (D × D)} : wp (fMt i m fl E) QD = wp (fPk i E) fun _ E1 => ∃ c, Ar.get E1 (.pk i) = some c ∧ isLst c = true ∧ wp (fl E1) fun as E2 => wp (resMt i m as E2) QD := by
  unfold fMt
  simp only [wp_bind]
  congr; funext _ E1
  cases h : Ar.get E1 (.pk i) with
  | none => simp [wp]
  | some c =>
    simp only
    by_cases hc : isLst c = true
    · simp [hc, wp_bind]
    · simp [hc, wp]
/-! walks -/
theorem wp_iAnyF : wp (iAnyF f E) QI = wp (f E) fun d E1 => wp (R.some (itAny d) E1) QI := by unfold iAnyF; simp only [wp_bind]
theorem wp_iRng : wp (iRng fl E) QI = wp (fl E) fun as E1 => ∃ ds, valsOf as = some ds ∧ wp (R.some (itR ds) E1) QI := by
  unfold iRng; simp only [wp_bind]; congr; funext as E1; cases valsOf as <;> simp [wp]
theorem wp_iZip : wp (iZip fl E) QI = wp (fl E) fun as E1 => ∃ ds, valsOf as = some ds ∧ wp (R.some (itZ ds) E1) QI := by
  unfold iZip; simp only [wp_bind]; congr; funext as E1; cases valsOf as <;> simp [wp]
theorem wp_iEnumF : wp (iEnumF fl E) QI = wp (fl E) fun as E1 => ∃ ds, valsOf as = some ds ∧ wp (R.some (itE ds) E1) QI := by
  unfold iEnumF; simp only [wp_bind]; congr; funext as E1; cases valsOf as <;> simp [wp]
theorem wp_fFor {fi : Nv → R (List D)} {b : Bd} : wp (fFor fi b s E) QS = wp (fi E) fun ds E1 => wp (forL b s ds E1) QS := by unfold fFor; simp only [wp_bind]
theorem wp_fLc {fi : Nv → R (List D)} {b : Bd} {vs : List Nat} : wp (fLc fi b t f vs E) QD = wp (fi E) fun ds E1 => wp (lcL b t f vs ds [] (wipeE E1 vs)) fun xs E2 => QD (.lst xs) (restoreE E1 E2 vs) := by unfold fLc; simp only [wp_bind, wp_val]
theorem wp_fCall {fn : Fn} : wp (fCall fn fl E) QD = wp (fl E) fun as E1 => wp (resC fn as E1) QD := by unfold fCall; simp only [wp_bind]
theorem wp_fCallN {fn : Fn} : wp (fCallN fn fl E) QD = wp (fl E) fun as E1 => wp (resCN fn as E1) QD := by unfold fCallN; simp only [wp_bind]
theorem wp_resC {fn : Fn} {ars : List Ar} {as : List Sl} (hl : lend E 0 ars = some as) (ho : once ars = true) : wp (resC fn ars E) QD = wpF (fn as) fun d bs => shape as bs = true ∧ QD d (unlend ars bs E) := by
  unfold resC
  simp only [hl, ho]
  cases fn as with
  | val d bs => simp only [wpF]; by_cases h : shape as bs = true <;> simp [h, wp]
  | new d bs => simp [wpF, wp]
  | exc c fs bs => simp only [wpF]; by_cases h : shape as bs = true <;> simp [h, wp]
  | bad => simp [wpF, wp]
theorem wp_resCN {fn : Fn} {ars : List Ar} {as : List Sl} (hl : lend E 0 ars = some as) (ho : once ars = true) : wp (resCN fn ars E) QD = wpN (fn as) fun d bs => shape as bs = true ∧ QD d (unlend ars bs E) := by
  unfold resCN
  simp only [hl, ho]
  cases fn as with
  | new d bs => simp only [wpN]; by_cases h : shape as bs = true <;> simp [h, wp]
  | val d bs => simp [wpN, wp]
  | exc c fs bs => simp only [wpN]; by_cases h : shape as bs = true <;> simp [h, wp]
  | bad => simp [wpN, wp]
theorem wp_fFld {n : Str} : wp (fFld n fa E) QD = wp (fa E) fun a E1 => wp (resFld n a E1) QD := by unfold fFld; simp only [wp_bind]
theorem wp_fSl {p q : Nv → R (Option Int)} : wp (fSl fa p q E) QD = wp (fa E) fun a E1 => wp (p E1) fun lo E2 => wp (q E2) fun hi E3 => wp (resSl lo hi a E3) QD := by unfold fSl; simp only [wp_bind]
theorem wp_pNone : wp (pNone E) QP = QP none E := rfl
theorem wp_pSome : wp (pSome f E) QP = wp (f E) fun d E1 => ∃ i, asI d = some i ∧ QP (some i) E1 := by
  unfold pSome; simp only [wp_bind]; congr; funext d E1; cases asI d <;> simp [wp]
theorem wp_runF {N : Nat} {as : List Sl} {Q : D → List Sl → Prop} (h : wp (s (as ++ List.replicate (N - as.length) .no)) fun fl E => match fl with
    | .nx => ∃ b, backs as E = some b ∧ Q .non b
    | .rt d => ∃ b, backs as E = some b ∧ Q d b
    | _ => False) : wpF (runF N s as) Q := by
  unfold runF
  revert h
  cases s (as ++ List.replicate (N - as.length) .no) with
  | val fl E =>
    cases fl with
    | nx => rintro ⟨b, h1, h2⟩; simp only [h1]; exact h2
    | rt d => rintro ⟨b, h1, h2⟩; simp only [h1]; exact h2
    | _ => exact fun h => h.elim
  | _ => exact fun h => h.elim
theorem wpN_runF {N : Nat} {as : List Sl} {Q : D → List Sl → Prop} (h : wp (s (as ++ List.replicate (N - as.length) .no)) fun fl E => match fl with
    | .rn d => ∃ b, backs as E = some b ∧ Q d b
    | _ => False) : wpN (runF N s as) Q := by
  unfold runF
  revert h
  cases s (as ++ List.replicate (N - as.length) .no) with
  | val fl E =>
    cases fl with
    | rn d => rintro ⟨b, h1, h2⟩; simp only [h1]; exact h2
    | _ => exact fun h => h.elim
  | _ => exact fun h => h.elim
/-- a loop by an invariant: I before each turn, by what is left -/
theorem wp_forL {b : Bd} {ds : List D} (I : List D → Nv → Prop) (h0 : I ds E) (turn : ∀ d r E, I (d :: r) E → ∃ E1, b d E = some E1 ∧ wp (s E1) fun fl E2 => match fl with
    | .nx => I r E2
    | .ct => I r E2
    | .bk => QS .nx E2
    | fl => QS fl E2) (fin : ∀ E, I [] E → QS .nx E) : wp (forL b s ds E) QS := by
  induction ds generalizing E with
  | nil => exact fin E h0
  | cons d r ih =>
    obtain ⟨E1, e1, w⟩ := turn d r E h0
    unfold forL
    simp only [e1]
    revert w
    cases s E1 with
    | val fl E2 =>
      cases fl with
      | nx => exact fun w => ih w
      | ct => exact fun w => ih w
      | bk => exact fun w => w
      | rt x => exact fun w => w
      | rn x => exact fun w => w
    | _ => exact fun w => w.elim
theorem wp_lcL {b : Bd} {ds acc : List D} {vs : List Nat} {Q : List D → Nv → Prop} (I : List D → List D → Nv → Prop) (h0 : I ds acc E) (turn : ∀ d r acc E, I (d :: r) acc E → ∃ E1, b d E = some E1 ∧ wp (t E1) fun k E2 => if k = true then wp (f E2) fun x E3 => acc.length < sizeLine ∧ I r (acc ++ [x]) (wipeE E3 vs) else I r acc (wipeE E2 vs))
    (fin : ∀ acc E, I [] acc E → Q acc E) : wp (lcL b t f vs ds acc E) Q := by
  induction ds generalizing E acc with
  | nil => exact fin acc E h0
  | cons d r ih =>
    obtain ⟨E1, e1, w⟩ := turn d r acc E h0
    unfold lcL
    simp only [e1, wp_bind, wp_nox]
    refine wp_imp w fun k E2 w2 => ?_
    by_cases hk : k = true
    · rw [if_pos hk] at w2 ⊢
      rw [wp_bind, wp_nox]
      refine wp_imp w2 fun x E3 w3 => ?_
      rw [if_pos w3.1]
      exact ih w3.2
    · rw [if_neg hk] at w2 ⊢
      exact ih w2
end
end FL

namespace FL
open PySem PySem.Spec PyProof.Rows L2
/-! ## running by simp: ends that stay shut -/
def seqQ (t : Nv → R Fl) (Q : Fl → Nv → Prop) : Fl → Nv → Prop := fun fl E1 => match fl with
  | .nx => wp (t E1) Q
  | fl => Q fl E1
def endQ (as : List Sl) (Q : D → List Sl → Prop) : Fl → Nv → Prop := fun fl E => match fl with
  | .nx => ∃ b, backs as E = some b ∧ Q .non b
  | .rt d => ∃ b, backs as E = some b ∧ Q d b
  | _ => False
def endN (as : List Sl) (Q : D → List Sl → Prop) : Fl → Nv → Prop := fun fl E => match fl with
  | .rn d => ∃ b, backs as E = some b ∧ Q d b
  | _ => False
def loopQ (I : List D → Nv → Prop) (r : List D) (Q : Fl → Nv → Prop) : Fl → Nv → Prop := fun fl E2 => match fl with
  | .nx => I r E2
  | .ct => I r E2
  | .bk => Q .nx E2
  | fl => Q fl E2
section
variable {α : Type} {s t : Nv → R Fl} {Q : Fl → Nv → Prop} {E : Nv} {as : List Sl} {QF : D → List Sl → Prop} {d : D} {I : List D → Nv → Prop} {r : List D}
theorem wp_seq (h : wp (s E) (seqQ t Q)) : wp (fSeq s t E) Q := by rw [wp_fSeq]; exact h
theorem seqQ_nx (h : wp (t E) Q) : seqQ t Q .nx E := h
theorem seqQ_rt (h : Q (.rt d) E) : seqQ t Q (.rt d) E := h
theorem seqQ_nx' : seqQ t Q .nx E = wp (t E) Q := rfl
theorem seqQ_rt' : seqQ t Q (.rt d) E = Q (.rt d) E := rfl
theorem seqQ_rn' : seqQ t Q (.rn d) E = Q (.rn d) E := rfl
theorem seqQ_bk' : seqQ t Q .bk E = Q .bk E := rfl
theorem seqQ_ct' : seqQ t Q .ct E = Q .ct E := rfl
theorem endQ_rt {b : List Sl} (h : backs as E = some b) (q : QF d b) : endQ as QF (.rt d) E := ⟨b, h, q⟩
theorem endQ_nx {b : List Sl} (h : backs as E = some b) (q : QF .non b) : endQ as QF .nx E := ⟨b, h, q⟩
theorem endQ_rt' : endQ as QF (.rt d) E = ∃ b, backs as E = some b ∧ QF d b := rfl
theorem endQ_nx' : endQ as QF .nx E = ∃ b, backs as E = some b ∧ QF .non b := rfl
theorem endN_rn' : endN as QF (.rn d) E = ∃ b, backs as E = some b ∧ QF d b := rfl
theorem loopQ_nx' : loopQ I r Q .nx E = I r E := rfl
theorem loopQ_ct' : loopQ I r Q .ct E = I r E := rfl
theorem loopQ_bk' : loopQ I r Q .bk E = Q .nx E := rfl
theorem loopQ_rt' : loopQ I r Q (.rt d) E = Q (.rt d) E := rfl
theorem run_wp {N : Nat} (h : wp (s (as ++ List.replicate (N - as.length) .no)) (endQ as QF)) : wpF (runF N s as) QF := wp_runF h
theorem run_wpN {N : Nat} (h : wp (s (as ++ List.replicate (N - as.length) .no)) (endN as QF)) : wpN (runF N s as) QF := wpN_runF h
theorem for_wp {b : Bd} {ds : List D} (I : List D → Nv → Prop) (h0 : I ds E) (turn : ∀ d r E, I (d :: r) E → ∃ E1, b d E = some E1 ∧ wp (s E1) (loopQ I r Q)) (fin : ∀ E, I [] E → Q .nx E) : wp (forL b s ds E) Q := wp_forL I h0 turn fin
theorem wp_someIte {o : α} {c : Prop} [Decidable c] {Q : α → Nv → Prop} : wp (R.some (if c then some o else none) E) Q = (c ∧ Q o E) := by
  by_cases h : c
  · simp [h, R.some, wp]
  · simp [h, R.some, wp]
theorem atI_nat' {xs : List α} (n : Nat) : atI xs (n : Int) = xs[n]? := by
  unfold atI ixN
  rw [if_pos (by omega)]
  by_cases h : n < xs.length
  · rw [if_pos (by omega)]
    rfl
  · rw [if_neg (by omega), List.getElem?_eq_none (by omega)]
    rfl
theorem atI_0 {xs : List α} : atI xs 0 = xs[0]? := atI_nat' 0
theorem atI_1 {xs : List α} : atI xs 1 = xs[1]? := atI_nat' 1
theorem atI_2 {xs : List α} : atI xs 2 = xs[2]? := atI_nat' 2
theorem atI_3 {xs : List α} : atI xs 3 = xs[3]? := atI_nat' 3
theorem atI_4 {xs : List α} : atI xs 4 = xs[4]? := atI_nat' 4
theorem atI_pos {xs : List α} {i : Int} (h : 0 ≤ i) : atI xs i = xs[i.toNat]? := by
  obtain ⟨n, rfl⟩ := Int.eq_ofNat_of_zero_le h
  exact atI_nat' n
theorem ixN_pos {n : Nat} {i : Int} (h : 0 ≤ i) (h2 : i < n) : ixN n i = some i.toNat := by unfold ixN; rw [if_pos h, if_pos h2]
theorem ixN_0 {n : Nat} : ixN (n + 1) 0 = some 0 := ixN_pos (by omega) (by omega)
theorem ixN_1 {n : Nat} : ixN (n + 2) 1 = some 1 := ixN_pos (by omega) (by omega)
theorem ixN_2 {n : Nat} : ixN (n + 3) 2 = some 2 := ixN_pos (by omega) (by omega)
theorem ixN_3 {n : Nat} : ixN (n + 4) 3 = some 3 := ixN_pos (by omega) (by omega)
theorem ixN_4 {n : Nat} : ixN (n + 5) 4 = some 4 := ixN_pos (by omega) (by omega)
/-! equality of ints -/
theorem dEq_int {i j : Int} : dEq (.int i) (.int j) = some (i == j) := by
  show (if SeqAt.shaped (PyData.int i) = true ∧ SeqAt.shaped (PyData.int j) = true then some (PyData.eqv (PyData.int i) (PyData.int j)) else none) = _
  rw [if_pos ⟨rfl, rfl⟩]
  rfl
theorem oEq_int {i j : Int} : oEq (.int i) (.int j) = some (.bl (i == j)) := by unfold oEq; rw [dEq_int]; rfl
theorem oNe_int {i j : Int} : oNe (.int i) (.int j) = some (.bl (!(i == j))) := by unfold oNe; rw [dEq_int]; rfl
theorem dEq_bl {i j : Bool} : dEq (.bl i) (.bl j) = some (i == j) := by
  show (if SeqAt.shaped (PyData.bool i) = true ∧ SeqAt.shaped (PyData.bool j) = true then some (PyData.eqv (PyData.bool i) (PyData.bool j)) else none) = _
  rw [if_pos ⟨rfl, rfl⟩]
  rfl
theorem oEq_bl {i j : Bool} : oEq (.bl i) (.bl j) = some (.bl (i == j)) := by unfold oEq; rw [dEq_bl]; rfl
theorem oNe_bl {i j : Bool} : oNe (.bl i) (.bl j) = some (.bl (!(i == j))) := by unfold oNe; rw [dEq_bl]; rfl
theorem ex_some {α : Type} {a : α} {p : α → Prop} : (∃ b, some a = some b ∧ p b) = p a := propext ⟨fun ⟨_, h, q⟩ => by cases h; exact q, fun h => ⟨a, rfl, h⟩⟩
theorem sl16 {n : Nat} (h : n ≤ 1000000) : n ≤ sizeLine := Nat.le_trans h (by rw [sizeLine_eq]; decide)
end
end FL

namespace FL
open PySem PySem.Spec PyProof.Rows L2

/-! ## a run by simp: the outcome alone is looked at, what comes behind waits (a type that hangs on it keeps simp away) -/
abbrev Tg {b : Type} (_ : b) : Type := Unit
def run {α : Type} (Q : α → Nv → Prop) (_ : Tg Q) (r : R α) : Prop := wp r Q
def runC (Q : D → List Sl → Prop) (_ : Tg Q) (r : FR) : Prop := wpF r Q
def runN (Q : D → List Sl → Prop) (_ : Tg Q) (r : FR) : Prop := wpN r Q
def seqK (s : Nv → R Fl) (Q : Fl → Nv → Prop) (_ : Tg (s, Q)) (fl : Fl) (E : Nv) : Prop := seqQ s Q fl E
def endK (as : List Sl) (Q : D → List Sl → Prop) (_ : Tg (as, Q)) (fl : Fl) (E : Nv) : Prop := endQ as Q fl E
def endM (as : List Sl) (Q : D → List Sl → Prop) (_ : Tg (as, Q)) (fl : Fl) (E : Nv) : Prop := endN as Q fl E
def bakK (as : List Sl) (Q : D → List Sl → Prop) (d : D) (_ : Tg (as, Q, d)) (b : Option (List Sl)) : Prop := ∃ x, b = some x ∧ Q d x
def loopK (I : List D → Nv → Prop) (r : List D) (Q : Fl → Nv → Prop) (_ : Tg (I, r, Q)) (fl : Fl) (E : Nv) : Prop := loopQ I r Q fl E
def ifK {α : Type} (f g : Nv → R α) (Q : α → Nv → Prop) (_ : Tg (f, g, Q)) (b : Bool) (E : Nv) : Prop := if b = true then wp (f E) Q else wp (g E) Q
def andK (h : Nv → R D) (Q : D → Nv → Prop) (_ : Tg (h, Q)) (d : D) (E : Nv) : Prop := (asB d = some true ∧ wp (h E) Q) ∨ (asB d = some false ∧ Q (.bl false) E)
def orK (h : Nv → R D) (Q : D → Nv → Prop) (_ : Tg (h, Q)) (d : D) (E : Nv) : Prop := (asB d = some false ∧ wp (h E) Q) ∨ (asB d = some true ∧ Q (.bl true) E)
def tandK (u : Nv → R Bool) (Q : Bool → Nv → Prop) (_ : Tg (u, Q)) (b : Bool) (E : Nv) : Prop := if b = true then wp (u E) Q else Q false E
def torK (u : Nv → R Bool) (Q : Bool → Nv → Prop) (_ : Tg (u, Q)) (b : Bool) (E : Nv) : Prop := if b = true then Q true E else wp (u E) Q
def chK (o' : D → D → Option D) (fc : Nv → R Ar) (b : Ar) (Q : D → Nv → Prop) (_ : Tg (o', fc, b, Q)) (z : D) (E3 : Nv) : Prop := (asB z = some true ∧ wp (fc E3) fun c E4 => wp (res2 o' E4 b c) Q) ∨ (asB z = some false ∧ Q (.bl false) E3)
def forK (b : Bd) (s : Nv → R Fl) (Q : Fl → Nv → Prop) (_ : Tg (b, s, Q)) (ds : List D) (E : Nv) : Prop := wp (forL b s ds E) Q
def lcK (b : Bd) (t : Nv → R Bool) (f : Nv → R D) (vs : List Nat) (Q : D → Nv → Prop) (_ : Tg (b, t, f, vs, Q)) (ds : List D) (E : Nv) : Prop := wp (lcL b t f vs ds [] (wipeE E vs)) fun xs E2 => Q (.lst xs) (restoreE E E2 vs)
def calK (fn : Fn) (ars : List Ar) (Q : D → Nv → Prop) (_ : Tg (fn, ars, Q)) (E : Nv) (as : Option (List Sl)) : Prop := match as with
  | some as => once ars = true ∧ wpF (fn as) fun d bs => shape as bs = true ∧ Q d (unlend ars bs E)
  | none => False
def calM (fn : Fn) (ars : List Ar) (Q : D → Nv → Prop) (_ : Tg (fn, ars, Q)) (E : Nv) (as : Option (List Sl)) : Prop := match as with
  | some as => once ars = true ∧ wpN (fn as) fun d bs => shape as bs = true ∧ Q d (unlend ars bs E)
  | none => False
def retK (as : List Sl) (ars : List Ar) (Q : D → Nv → Prop) (E : Nv) (_ : Tg (as, ars, Q, E)) (d : D) (bs : List Sl) : Prop := shape as bs = true ∧ Q d (unlend ars bs E)
def backK (Q : D → Nv → Prop) (_ : Tg Q) (d : D) (E : Nv) : Prop := Q d E
def asgK (b : Bd) (Q : Fl → Nv → Prop) (_ : Tg (b, Q)) (d : D) (E : Nv) : Prop := ∃ E2, b d E = some E2 ∧ Q .nx E2
def someK (Q : Nv → Prop) (_ : Tg Q) (o : Option Nv) : Prop := ∃ E, o = some E ∧ Q E
def mtK (m : D → List D → Option (D × D)) (i : Nat) (fl : Nv → R (List Ar)) (Q : D → Nv → Prop) (_ : Tg (m, fl, Q)) (c : Option D) (E : Nv) : Prop := ∃ d, c = some d ∧ isLst d = true ∧ wp (fl E) fun as E2 => wp (resMt i m as E2) Q
def optK {α : Type} (Q : α → Prop) (_ : Tg Q) (o : Option α) : Prop := ∃ a, o = some a ∧ Q a
/-! what is looked at -/
def pkV (s : Option Sl) (i : Nat) (E : Nv) : R Ar := match s with
  | some s => match s.cont with
    | some _ => .val (.pk i) E
    | none => .bad
  | none => .bad
def vrV (s : Option Sl) (i : Nat) (E : Nv) : R D := match s with
  | some (.fz d) => .val d E
  | some (.own d) => .val d (E.set i (.fz d))
  | _ => .bad
def slC (s : Option Sl) : Option D := match s with
  | some s => s.cont
  | none => none
def slCell : Option Sl → Option D
  | some s => s.cell
  | none => none
def r2 (o : D → D → Option D) (a b : Option D) : Option D := match a, b with
  | some d, some e => o d e
  | _, _ => none
def rL (o : List D → Option D) (a : Option (List D)) : Option D := match a with
  | some ds => o ds
  | none => none
def cons2 (a : Option D) (b : Option (List D)) : Option (List D) := match a, b with
  | some d, some ds => some (d :: ds)
  | _, _ => none
def rFld (n : Str) (a : Option D) : Option D := match a with
  | some (.ins _ ns ds) => lookD n ns ds
  | _ => none
def rSl (lo hi : Option Int) (a : Option D) : Option D := match a with
  | some d => oSl d lo hi
  | none => none
def rIx (s : Option Sl) (d k : D) : Option Sl := match s, k with
  | some s, .int i => match s.cell with
    | some (.lst ds) => match ixN ds.length i with
      | some m => some (s.put (.lst (ds.set m d)))
      | none => none
    | _ => none
  | _, _ => none
def rMt (o : D → List D → Option (D × D)) (s : Option Sl) (ds : Option (List D)) : Option (D × D) := match s, ds with
  | some s, some ds => match s.cell with
    | some c => o c ds
    | none => none
  | _, _ => none
def putO (s : Option Sl) (d : D) : Sl := match s with
  | some s => s.put d
  | none => .no
def rIsT (x : Option D) (cs : Option (List D)) : Option D := match x with
  | none => none
  | some x => match tyName x, cs with
    | some t, some ds => match tyNames ds with
      | some l => if ds.length ≤ sizeLine then some (.bl (l.any fun T => subTy t T)) else none
      | none => none
    | _, _ => none
def sCons2 (a : Option Sl) (b : Option (List Sl)) : Option (List Sl) := match a, b with
  | some a, some ds => some (a :: ds)
  | _, _ => none
def lendS1 (m : Nat) : Option Sl → Option Sl
  | some (.fz d) => some (.fz d)
  | some (.own d) => some (.bor m d)
  | some (.bor _ d) => some (.bor m d)
  | _ => none
def bCons (a : Sl) (b : Option (List Sl)) : Option (List Sl) := match b with
  | some b => some (a :: b)
  | none => none
section
variable {E : Nv} {QD : D → Nv → Prop} {QB : Bool → Nv → Prop} {QA : Ar → Nv → Prop} {QL : List Ar → Nv → Prop} {QS : Fl → Nv → Prop} {QI : List D → Nv → Prop} {QP : Option Int → Nv → Prop}
  {f h : Nv → R D} {fa fb fc : Nv → R Ar} {t u : Nv → R Bool} {s s2 : Nv → R Fl} {fs : List (Nv → R Ar)} {fl : Nv → R (List Ar)} {i j : Nat} {d : D} {o o' : D → D → Option D}
theorem x_val {α : Type} {a : α} {Q : α → Nv → Prop} {g : Tg Q} : run Q g (.val a E) = Q a E := rfl
theorem x_bad {α : Type} {Q : α → Nv → Prop} {g : Tg Q} : run Q g .bad = False := rfl
theorem x_exc {α : Type} {Q : α → Nv → Prop} {g : Tg Q} {c : Nat} {fs : Option (Str × D)} : run Q g (.exc c fs E) = False := rfl
theorem x_Rsome {α : Type} {a : α} : R.some (some a) E = .val a E := rfl
theorem x_Rnone {α : Type} : (R.some none E : R α) = .bad := rfl
theorem x_ite {α : Type} {a : α} {c : Prop} {ic : Decidable c} {Q : α → Nv → Prop} {g : Tg Q} : run Q g (R.some (@ite _ c ic (some a) none) E) = (c ∧ Q a E) := wp_someIte
theorem x_fPk {g : Tg QA} : run QA g (fPk i E) = run QA g (pkV E[i]? i E) := by
  unfold run fPk pkV; cases E[i]? with
  | none => rfl
  | some s => cases s <;> rfl
theorem x_fVar {g : Tg QD} : run QD g (fVar i E) = run QD g (vrV E[i]? i E) := by
  unfold run fVar vrV; cases E[i]? with
  | none => rfl
  | some s => cases s <;> rfl
theorem pkV_fz : pkV (some (.fz d)) i E = .val (.pk i) E := rfl
theorem pkV_own : pkV (some (.own d)) i E = .val (.pk i) E := rfl
theorem pkV_bor {k : Nat} : pkV (some (.bor k d)) i E = .val (.pk i) E := rfl
theorem vrV_fz : vrV (some (.fz d)) i E = .val d E := rfl
theorem vrV_own : vrV (some (.own d)) i E = .val d (E.set i (.fz d)) := rfl
theorem get_v : Ar.get E (.v d) = some d := rfl
theorem get_pk : Ar.get E (.pk i) = slC E[i]? := by unfold Ar.get slC; rfl
theorem slC_fz : slC (some (.fz d)) = some d := rfl
theorem slC_own : slC (some (.own d)) = some d := rfl
theorem slC_bor {k : Nat} : slC (some (.bor k d)) = some d := rfl
theorem x_fC {g : Tg QD} : run QD g (fC d E) = QD d E := rfl
theorem x_fV {g : Tg QA} : run QA g (fV f E) = run (fun d E1 => QA (.v d) E1) () (f E) := wp_fV
theorem x_fOp2 {g : Tg QD} : run QD g (fOp2 o fa fb E) = run (fun a E1 => run (fun b E2 => run QD () (R.some (r2 o (a.get E2) (b.get E2)) E2)) () (fb E1)) () (fa E) := by
  unfold run; rw [wp_fOp2]
  congr; funext a E1; congr; funext b E2
  unfold res2 r2; cases a.get E2 <;> cases b.get E2 <;> rfl
theorem r2_ss {d e : D} : r2 o (some d) (some e) = o d e := rfl
theorem x_fAs0 {g : Tg QL} : run QL g (fAs [] E) = QL [] E := rfl
theorem x_fAs1 {g : Tg QL} : run QL g (fAs (fa :: fs) E) = run (fun a E1 => run (fun as E2 => QL (a :: as) E2) () (fAs fs E1)) () (fa E) := wp_fAs1
theorem x_arGets0 : arGets E [] = some [] := rfl
theorem x_arGets1 {a : Ar} {as : List Ar} : arGets E (a :: as) = cons2 (a.get E) (arGets E as) := by
  rw [arGets]; unfold cons2; cases a.get E with
  | none => rfl
  | some d => cases arGets E as <;> rfl
theorem cons2_s {ds : List D} : cons2 (some d) (some ds) = some (d :: ds) := rfl
theorem x_valsOf0 : valsOf [] = some [] := rfl
theorem x_valsOf1 {as : List Ar} : valsOf (.v d :: as) = cons2 (some d) (valsOf as) := by rw [valsOf]; unfold cons2; cases valsOf as <;> rfl
theorem rL_s {o : List D → Option D} {ds : List D} : rL o (some ds) = o ds := rfl
theorem x_fOpL {o : List D → Option D} {g : Tg QD} : run QD g (fOpL o fl E) = run (fun as E1 => run QD () (R.some (rL o (arGets E1 as)) E1)) () (fl E) := by
  unfold run; rw [wp_fOpL]; congr; funext as E1; unfold resL rL; cases arGets E1 as <;> rfl
theorem x_fOpV {o : List D → Option D} {g : Tg QD} : run QD g (fOpV o fl E) = run (fun as E1 => run QD () (R.some (rL o (valsOf as)) E1)) () (fl E) := by
  unfold run; rw [wp_fOpV]; congr; funext as E1; unfold resV rL; cases valsOf as <;> rfl
theorem x_fAnd {g : Tg QD} : run QD g (fAnd f h E) = run (andK h QD ()) () (f E) := wp_fAnd
theorem x_fOr {g : Tg QD} : run QD g (fOr f h E) = run (orK h QD ()) () (f E) := wp_fOr
theorem andK_t {g : Tg (h, QD)} : andK h QD g (.bl true) E = run QD () (h E) := by unfold andK asB run; simp
theorem andK_f {g : Tg (h, QD)} : andK h QD g (.bl false) E = QD (.bl false) E := by unfold andK asB; simp
theorem orK_t {g : Tg (h, QD)} : orK h QD g (.bl true) E = QD (.bl true) E := by unfold orK asB; simp
theorem orK_f {g : Tg (h, QD)} : orK h QD g (.bl false) E = run QD () (h E) := by unfold orK asB run; simp
theorem andK_if {b : Bool} {g : Tg (h, QD)} (h1 : b = true → run QD () (h E)) (h2 : b = false → QD (.bl false) E) : andK h QD g (.bl b) E := by
  cases b with
  | true => rw [andK_t]; exact h1 rfl
  | false => rw [andK_f]; exact h2 rfl
theorem orK_if {b : Bool} {g : Tg (h, QD)} (h1 : b = false → run QD () (h E)) (h2 : b = true → QD (.bl true) E) : orK h QD g (.bl b) E := by
  cases b with
  | true => rw [orK_t]; exact h2 rfl
  | false => rw [orK_f]; exact h1 rfl
theorem x_tAnd {g : Tg QB} : run QB g (tAndF t u E) = run (tandK u QB ()) () (t E) := wp_tAndF
theorem x_tOr {g : Tg QB} : run QB g (tOrF t u E) = run (torK u QB ()) () (t E) := wp_tOrF
theorem x_tNot {g : Tg QB} : run QB g (tNotF t E) = run (fun b E1 => QB (!b) E1) () (t E) := wp_tNotF
theorem tandK_t {g : Tg (u, QB)} : tandK u QB g true E = run QB () (u E) := rfl
theorem tandK_f {g : Tg (u, QB)} : tandK u QB g false E = QB false E := rfl
theorem torK_t {g : Tg (u, QB)} : torK u QB g true E = QB true E := rfl
theorem torK_f {g : Tg (u, QB)} : torK u QB g false E = run QB () (u E) := rfl
theorem tandK_if {b : Bool} {g : Tg (u, QB)} (h1 : b = true → run QB () (u E)) (h2 : b = false → QB false E) : tandK u QB g b E := by
  cases b with
  | true => exact h1 rfl
  | false => exact h2 rfl
theorem torK_if {b : Bool} {g : Tg (u, QB)} (h1 : b = false → run QB () (u E)) (h2 : b = true → QB true E) : torK u QB g b E := by
  cases b with
  | true => exact h2 rfl
  | false => exact h1 rfl
theorem x_fIf {α : Type} {Q : α → Nv → Prop} {f g : Nv → R α} {k : Tg Q} : run Q k (fIf t f g E) = run (ifK f g Q ()) () (t E) := wp_fIf
theorem ifK_t {α : Type} {Q : α → Nv → Prop} {f g : Nv → R α} {k : Tg (f, g, Q)} : ifK f g Q k true E = run Q () (f E) := rfl
theorem ifK_f {α : Type} {Q : α → Nv → Prop} {f g : Nv → R α} {k : Tg (f, g, Q)} : ifK f g Q k false E = run Q () (g E) := rfl
theorem ifK_if {α : Type} {Q : α → Nv → Prop} {f g : Nv → R α} {k : Tg (f, g, Q)} {b : Bool} (h1 : b = true → run Q () (f E)) (h2 : b = false → run Q () (g E)) : ifK f g Q k b E := by
  cases b with
  | true => exact h1 rfl
  | false => exact h2 rfl
theorem x_fTest {g : Tg QB} : run QB g (fTest f E) = run (fun d E1 => run QB () (R.some (asB d) E1)) () (f E) := by unfold run fTest; simp only [wp_bind]
theorem asB_bl {b : Bool} : asB (.bl b) = some b := rfl
theorem x_fNot {g : Tg QD} : run QD g (fNot f E) = run (fun d E1 => run (fun b E2 => QD (.bl (!b)) E2) () (R.some (asB d) E1)) () (f E) := by
  unfold run; rw [wp_fNot]; congr; funext d E1; cases asB d <;> simp [R.some, wp]
theorem x_fChain {g : Tg QD} : run QD g (fChain o o' fa fb fc E) = run (fun a E1 => run (fun b E2 => run (chK o' fc b QD ()) () (R.some (r2 o (a.get E2) (b.get E2)) E2)) () (fb E1)) () (fa E) := by
  unfold run; rw [wp_fChain]; congr; funext a E1; congr; funext b E2
  unfold res2 r2 chK; cases a.get E2 <;> cases b.get E2 <;> rfl
theorem chK_t {b : Ar} {g : Tg (o', fc, b, QD)} : chK o' fc b QD g (.bl true) E = run (fun c E4 => run QD () (R.some (r2 o' (b.get E4) (c.get E4)) E4)) () (fc E) := by
  unfold chK asB run; simp only [true_and, Option.some.injEq, Bool.true_eq_false, false_and, or_false]
  congr; funext a E1; unfold res2 r2; cases b.get E1 <;> cases a.get E1 <;> rfl
theorem chK_f {b : Ar} {g : Tg (o', fc, b, QD)} : chK o' fc b QD g (.bl false) E = QD (.bl false) E := by unfold chK asB; simp
theorem chK_if {b : Ar} {g : Tg (o', fc, b, QD)} {z : Bool} (h1 : z = true → run (fun c E4 => run QD () (R.some (r2 o' (b.get E4) (c.get E4)) E4)) () (fc E)) (h2 : z = false → QD (.bl false) E) : chK o' fc b QD g (.bl z) E := by
  cases z with
  | true => rw [chK_t]; exact h1 rfl
  | false => rw [chK_f]; exact h2 rfl
/-! statements -/
theorem x_fNx {g : Tg QS} : run QS g (fNx E) = QS .nx E := rfl
theorem x_fBrk {g : Tg QS} : run QS g (fBrk E) = QS .bk E := rfl
theorem x_fCnt {g : Tg QS} : run QS g (fCnt E) = QS .ct E := rfl
theorem x_fBad {α : Type} {Q : α → Nv → Prop} {g : Tg Q} : run Q g (fBad E) = False := rfl
theorem x_seq {g : Tg QS} : run QS g (fSeq s s2 E) = run (seqK s2 QS ()) () (s E) := wp_fSeq
theorem seqK_nx {g : Tg (s, QS)} : seqK s QS g .nx E = run QS () (s E) := rfl
theorem seqK_rt {g : Tg (s, QS)} : seqK s QS g (.rt d) E = QS (.rt d) E := rfl
theorem seqK_rn {g : Tg (s, QS)} : seqK s QS g (.rn d) E = QS (.rn d) E := rfl
theorem seqK_bk {g : Tg (s, QS)} : seqK s QS g .bk E = QS .bk E := rfl
theorem seqK_ct {g : Tg (s, QS)} : seqK s QS g .ct E = QS .ct E := rfl
theorem loopK_nx {I : List D → Nv → Prop} {r : List D} {g : Tg (I, r, QS)} : loopK I r QS g .nx E = I r E := rfl
theorem loopK_ct {I : List D → Nv → Prop} {r : List D} {g : Tg (I, r, QS)} : loopK I r QS g .ct E = I r E := rfl
theorem loopK_bk {I : List D → Nv → Prop} {r : List D} {g : Tg (I, r, QS)} : loopK I r QS g .bk E = QS .nx E := rfl
theorem loopK_rt {I : List D → Nv → Prop} {r : List D} {g : Tg (I, r, QS)} : loopK I r QS g (.rt d) E = QS (.rt d) E := rfl
theorem loopK_rn {I : List D → Nv → Prop} {r : List D} {g : Tg (I, r, QS)} : loopK I r QS g (.rn d) E = QS (.rn d) E := rfl
theorem endK_nx {as : List Sl} {Q : D → List Sl → Prop} {g : Tg (as, Q)} : endK as Q g .nx E = bakK as Q .non () (backs as E) := rfl
theorem endK_rt {as : List Sl} {Q : D → List Sl → Prop} {g : Tg (as, Q)} : endK as Q g (.rt d) E = bakK as Q d () (backs as E) := rfl
theorem endM_rn {as : List Sl} {Q : D → List Sl → Prop} {g : Tg (as, Q)} : endM as Q g (.rn d) E = bakK as Q d () (backs as E) := rfl
theorem bakK_s {as b : List Sl} {Q : D → List Sl → Prop} {g : Tg (as, Q, d)} : bakK as Q d g (some b) = Q d b := ex_some
theorem bk_nil' {E : Nv} : backs [] E = some [] := rfl
theorem bk_fz' {x : D} {as : List Sl} {e : Sl} : backs (.fz x :: as) (e :: E) = bCons .no (backs as E) := by rw [backs]; unfold bCons; cases backs as E <;> rfl; all_goals (intros; contradiction)
theorem bk_bor' {x : D} {as : List Sl} {k : Nat} : backs (.bor k x :: as) (.bor k d :: E) = bCons (.bor k d) (backs as E) := by rw [backs]; simp only [if_pos]; unfold bCons; cases backs as E <;> rfl
theorem bCons_s {a : Sl} {b : List Sl} : bCons a (some b) = some (a :: b) := rfl
theorem x_fDrop {g : Tg QS} : run QS g (fDrop f E) = run (fun _ E1 => QS .nx E1) () (f E) := wp_fDrop
theorem x_fRet {g : Tg QS} : run QS g (fRet f E) = run (fun d E1 => QS (.rt d) E1) () (f E) := wp_fRet
theorem x_fRetN {g : Tg QS} : run QS g (fRetN f E) = run (fun d E1 => QS (.rn d) E1) () (f E) := wp_fRetN
theorem x_fRet0 {g : Tg QS} : run QS g (fRet0 E) = QS (.rt .non) E := rfl
theorem x_fSet {g : Tg QS} : run QS g (fSet i f E) = run (fun d E1 => QS .nx (E1.set i (.fz d))) () (f E) := wp_fSet
theorem x_fSetN {g : Tg QS} : run QS g (fSetN i f E) = run (fun d E1 => QS .nx (E1.set i (.own d))) () (f E) := wp_fSetN
theorem x_fPar {g : Tg QS} : run QS g (fPar i j f h E) = run (fun d E1 => run (fun e E2 => QS .nx ((E2.set i (.fz d)).set j (.fz e))) () (h E1)) () (f E) := wp_fPar
theorem x_fParNE {g : Tg QS} : run QS g (fParNE i j f h E) = run (fun d E1 => run (fun e E2 => QS .nx ((E2.set i (.own d)).set j (.fz e))) () (h E1)) () (f E) := wp_fParNE
theorem x_fParEN {g : Tg QS} : run QS g (fParEN i j f h E) = run (fun d E1 => run (fun e E2 => QS .nx ((E2.set i (.fz d)).set j (.own e))) () (h E1)) () (f E) := wp_fParEN
theorem x_fAsg {b : Bd} {g : Tg QS} : run QS g (fAsg f b E) = run (asgK b QS ()) () (f E) := wp_fAsg
theorem x_asgK {b : Bd} {g : Tg (b, QS)} : asgK b QS g d E = someK (fun E2 => QS .nx E2) () (b d E) := rfl
theorem someK_s {Q : Nv → Prop} {g : Tg Q} : someK Q g (some E) = Q E := ex_some
theorem x_bName : bName i d E = some (E.set i (.fz d)) := rfl
theorem x_bTup {bs : List Bd} {ds : List D} : bTup bs (.tup ds) E = bAll bs ds E := rfl
theorem x_bAll0 : bAll [] [] E = some E := rfl
theorem x_bAll1 {b : Bd} {bs : List Bd} {ds : List D} : bAll (b :: bs) (d :: ds) E = (b d E).bind fun E1 => bAll bs ds E1 := rfl
theorem x_obind {α β : Type} {a : α} {g : α → Option β} : (some a).bind g = g a := by
  have h : ∀ o : Option α, o = some a → o.bind g = g a := fun o e => by rw [e]; rfl
  exact h _ rfl
theorem x_fFor {fi : Nv → R (List D)} {b : Bd} {g : Tg QS} : run QS g (fFor fi b s E) = run (forK b s QS ()) () (fi E) := wp_fFor
theorem x_fLc {fi : Nv → R (List D)} {b : Bd} {vs : List Nat} {g : Tg QD} : run QD g (fLc fi b t f vs E) = run (lcK b t f vs QD ()) () (fi E) := wp_fLc
theorem x_fCall {fn : Fn} {g : Tg QD} : run QD g (fCall fn fl E) = run (fun as E1 => calK fn as QD () E1 (lend E1 0 as)) () (fl E) := by
  unfold run; rw [wp_fCall]; congr; funext as E1
  unfold calK
  cases z : lend E1 0 as with
  | none => simp [resC, z, wp]
  | some xs =>
    by_cases ho : once as = true
    · rw [wp_resC z ho]; simp [ho]
    · simp [resC, z, ho, wp]
theorem x_fCallN {fn : Fn} {g : Tg QD} : run QD g (fCallN fn fl E) = run (fun as E1 => calM fn as QD () E1 (lend E1 0 as)) () (fl E) := by
  unfold run; rw [wp_fCallN]; congr; funext as E1
  unfold calM
  cases z : lend E1 0 as with
  | none => simp [resCN, z, wp]
  | some xs =>
    by_cases ho : once as = true
    · rw [wp_resCN z ho]; simp [ho]
    · simp [resCN, z, ho, wp]
theorem calK_s {fn : Fn} {ars : List Ar} {as : List Sl} {g : Tg (fn, ars, QD)} (ho : once ars = true) : calK fn ars QD g E (some as) = runC (retK as ars QD E ()) () (fn as) := by
  unfold calK runC retK; simp [ho]
theorem calM_s {fn : Fn} {ars : List Ar} {as : List Sl} {g : Tg (fn, ars, QD)} (ho : once ars = true) : calM fn ars QD g E (some as) = runN (retK as ars QD E ()) () (fn as) := by
  unfold calM runN retK; simp [ho]
theorem retK_s {as bs : List Sl} {ars : List Ar} {g : Tg (as, ars, QD, E)} (hs : shape as bs = true) : retK as ars QD E g d bs = backK QD () d (unlend ars bs E) := by unfold retK backK; simp [hs]
theorem x_backK {g : Tg QD} : backK QD g d E = QD d E := rfl
theorem runC_val {bs : List Sl} {Q : D → List Sl → Prop} {g : Tg Q} : runC Q g (.val d bs) = Q d bs := rfl
theorem runN_new {bs : List Sl} {Q : D → List Sl → Prop} {g : Tg Q} : runN Q g (.new d bs) = Q d bs := rfl
theorem lend0 {m : Nat} : lend E m [] = some [] := rfl
theorem lend_v1 {m : Nat} {r : List Ar} : lend E m (.v d :: r) = sCons2 (some (.fz d)) (lend E (m + 1) r) := by rw [lend]; unfold sCons2; cases lend E (m + 1) r <;> rfl
theorem lend_pk1 {m : Nat} {r : List Ar} : lend E m (.pk j :: r) = sCons2 (lendS1 m E[j]?) (lend E (m + 1) r) := by
  rw [lend]; unfold sCons2
  cases E[j]? with
  | none => rfl
  | some s => cases s <;> cases lend E (m + 1) r <;> rfl
theorem sCons2_s {a : Sl} {b : List Sl} : sCons2 (some a) (some b) = some (a :: b) := rfl
theorem lendS1_fz {m : Nat} : lendS1 m (some (.fz d)) = some (.fz d) := rfl
theorem lendS1_own {m : Nat} : lendS1 m (some (.own d)) = some (.bor m d) := rfl
theorem lendS1_bor {m k : Nat} : lendS1 m (some (.bor k d)) = some (.bor m d) := rfl
theorem unl_pk {r : List Ar} {bs : List Sl} {k : Nat} : unlend (.pk j :: r) (.bor k d :: bs) E = unlend r bs (E.set j (putO E[j]? d)) := by
  rw [unlend]; unfold putO
  cases z : E[j]? with
  | some s => rfl
  | none =>
    have : E.length ≤ j := List.getElem?_eq_none_iff.mp z
    simp only
    rw [List.set_eq_of_length_le this]
theorem unl_pkno {r : List Ar} {bs : List Sl} : unlend (.pk j :: r) (.no :: bs) E = unlend r bs E := by
  rw [unlend]
  intro _ _ _ _ h2
  cases h2
theorem unl_v {r : List Ar} {b : Sl} {bs : List Sl} : unlend (.v d :: r) (b :: bs) E = unlend r bs E := by
  rw [unlend]
  intro _ _ _ h1 _
  cases h1
theorem unl_nil {bs : List Sl} : unlend [] bs E = E := by cases bs <;> rfl
theorem putO_fz {x : D} : putO (some (.fz x)) d = .fz x := rfl
theorem putO_own {x : D} : putO (some (.own x)) d = .own d := rfl
theorem putO_bor {x : D} {k : Nat} : putO (some (.bor k x)) d = .bor k d := rfl
theorem x_fFld {n : Str} {g : Tg QD} : run QD g (fFld n fa E) = run (fun a E1 => run QD () (R.some (rFld n (a.get E1)) E1)) () (fa E) := by
  unfold run; rw [wp_fFld]; congr; funext a E1; unfold resFld rFld; cases a.get E1 with
  | none => rfl
  | some d => cases d <;> rfl
theorem rFld_s {n : Str} {c : Nat} {ns : List Str} {ds : List D} : rFld n (some (.ins c ns ds)) = lookD n ns ds := rfl
theorem x_fSl {p q : Nv → R (Option Int)} {g : Tg QD} : run QD g (fSl fa p q E) = run (fun a E1 => run (fun lo E2 => run (fun hi E3 => run QD () (R.some (rSl lo hi (a.get E3)) E3)) () (q E2)) () (p E1)) () (fa E) := by
  unfold run; rw [wp_fSl]; congr; funext a E1; congr; funext lo E2; congr; funext hi E3; unfold resSl rSl; cases a.get E3 <;> rfl
theorem rSl_s {lo hi : Option Int} : rSl lo hi (some d) = oSl d lo hi := rfl
theorem x_pNone {g : Tg QP} : run QP g (pNone E) = QP none E := rfl
theorem x_pSome {g : Tg QP} : run QP g (pSome f E) = run (fun d E1 => run (fun i E2 => QP (some i) E2) () (R.some (asI d) E1)) () (f E) := by
  unfold run pSome; rw [wp_bind]; congr; funext d E1; cases asI d <;> rfl
theorem asI_int {i : Int} : asI (.int i) = some i := rfl
theorem x_iAny {g : Tg QI} : run QI g (iAnyF f E) = run (fun d E1 => run QI () (R.some (itAny d) E1)) () (f E) := wp_iAnyF
theorem x_iRng {g : Tg QI} : run QI g (iRng fl E) = run (fun as E1 => run QI () (R.some ((valsOf as).bind itR) E1)) () (fl E) := by
  unfold run iRng; rw [wp_bind]; congr; funext d E1; cases valsOf d <;> rfl
theorem x_iZip {g : Tg QI} : run QI g (iZip fl E) = run (fun as E1 => run QI () (R.some ((valsOf as).bind itZ) E1)) () (fl E) := by
  unfold run iZip; rw [wp_bind]; congr; funext d E1; cases valsOf d <;> rfl
theorem x_iEnum {g : Tg QI} : run QI g (iEnumF fl E) = run (fun as E1 => run QI () (R.some ((valsOf as).bind itE) E1)) () (fl E) := by
  unfold run iEnumF; rw [wp_bind]; congr; funext d E1; cases valsOf d <;> rfl
theorem x_fSetIx {g : Tg QS} : run QS g (fSetIx i f h E) = run (fun d E1 => run (fun _ E2 => run (fun k E3 => run (fun x E4 => QS .nx (E4.set i x)) () (R.some (rIx E3[i]? d k) E3)) () (f E2)) () (fPk i E1)) () (h E) := by
  unfold run; rw [wp_fSetIx]; congr; funext d E1; congr; funext a E2; congr; funext k E3
  unfold setIx rIx
  cases E3[i]? with
  | none => rfl
  | some s =>
    cases z : s.cell with
    | none => cases k <;> simp [z, R.some, wp]
    | some c =>
      cases c <;> cases k <;> simp [z, R.some, wp]
      rename_i ds m
      cases ixN ds.length m <;> rfl
theorem rIx_own {ds : List D} {i : Int} : rIx (some (.own (.lst ds))) d (.int i) = (ixN ds.length i).map fun m => .own (.lst (ds.set m d)) := by
  unfold rIx Sl.cell; simp only; cases ixN ds.length i <;> rfl
theorem rIx_bor {ds : List D} {i : Int} {k : Nat} : rIx (some (.bor k (.lst ds))) d (.int i) = (ixN ds.length i).map fun m => .bor k (.lst (ds.set m d)) := by
  unfold rIx Sl.cell; simp only; cases ixN ds.length i <;> rfl
theorem x_fMt {m : D → List D → Option (D × D)} {g : Tg QD} : run QD g (fMt i m fl E) = run (fun _ E1 => mtK m i fl QD () (slC E1[i]?) E1) () (fPk i E) := by
  unfold run; rw [wp_fMt]; congr
theorem mtK_s {m : D → List D → Option (D × D)} {ds : List D} {g : Tg (m, fl, QD)} : mtK m i fl QD g (some (.lst ds)) E = run (fun as E2 => run (fun z E3 => QD z.1 (E3.set i (putO E3[i]? z.2))) () (R.some (rMt m E2[i]? (valsOf as)) E2)) () (fl E) := by
  unfold mtK run; rw [ex_some]; simp only [isLst, true_and]
  congr; funext as E2
  unfold resMt rMt
  cases valsOf as with
  | none => cases E2[i]? <;> rfl
  | some ds => cases z : E2[i]? with
    | none => rfl
    | some s =>
      simp only
      cases s.cell with
      | none => rfl
      | some c => simp only; cases m c ds <;> simp [R.some, wp, putO, z]
theorem rMt_own {m : D → List D → Option (D × D)} {ds : List D} : rMt m (some (.own d)) (some ds) = m d ds := rfl
theorem rMt_bor {m : D → List D → Option (D × D)} {ds : List D} {k : Nat} : rMt m (some (.bor k d)) (some ds) = m d ds := rfl
theorem x_fIsiT {fc : Nv → R (List Ar)} {g : Tg QD} : run QD g (fIsiT fa fc E) = run (fun a E1 => run (fun cs E2 => run QD () (R.some (rIsT (a.get E2) (valsOf cs)) E2)) () (fc E1)) () (fa E) := by
  unfold run fIsiT; simp only [wp_bind]; congr; funext a E1; congr; funext cs E2
  unfold resIsiT rIsT
  cases a.get E2 with
  | none => rfl
  | some x =>
    simp only
    cases tyName x with
    | none => cases valsOf cs <;> rfl
    | some t => cases valsOf cs with
      | none => rfl
      | some ds =>
        simp only
        cases tyNames ds with
        | none => rfl
        | some l => simp only; split <;> rfl
theorem x_fSetFld {n : Str} {g : Tg QS} : run QS g (fSetFld i n f E) = run (fun d E1 => run (fun _ E2 => run QS () (setFld i n d E2)) () (fPk i E1)) () (f E) := wp_fSetFld
/-! the whole def -/
theorem eq_of_wpF {r : FR} {x : D} {y : List Sl} (h : wpF r fun d bs => d = x ∧ bs = y) : r = .val x y := by
  cases r with
  | val d bs => obtain ⟨rfl, rfl⟩ := h; rfl
  | _ => exact h.elim
theorem eq_of_wpN {r : FR} {x : D} {y : List Sl} (h : wpN r fun d bs => d = x ∧ bs = y) : r = .new x y := by
  cases r with
  | new d bs => obtain ⟨rfl, rfl⟩ := h; rfl
  | _ => exact h.elim
theorem fn_run {N : Nat} {as : List Sl} {Q : D → List Sl → Prop} (h : run (endK as Q ()) () (s (as ++ List.replicate (N - as.length) .no))) : wpF (runF N s as) Q := run_wp h
theorem fn_runN {N : Nat} {as : List Sl} {Q : D → List Sl → Prop} (h : run (endM as Q ()) () (s (as ++ List.replicate (N - as.length) .no))) : wpN (runF N s as) Q := run_wpN h
theorem fn_eq {N : Nat} {as : List Sl} {x : D} {y : List Sl} (h : run (endK as (fun d bs => d = x ∧ bs = y) ()) () (s (as ++ List.replicate (N - as.length) .no))) : runF N s as = .val x y := eq_of_wpF (run_wp h)
theorem fn_eqN {N : Nat} {as : List Sl} {x : D} {y : List Sl} (h : run (endM as (fun d bs => d = x ∧ bs = y) ()) () (s (as ++ List.replicate (N - as.length) .no))) : runF N s as = .new x y := eq_of_wpN (run_wpN h)
/-- a call by its promise -/
theorem call_by {fn : Fn} {as : List Sl} {Q P : D → List Sl → Prop} {g : Tg Q} (h : wpF (fn as) P) (k : ∀ d bs, P d bs → Q d bs) : runC Q g (fn as) := wpF_imp h k
theorem call_eq {fn : Fn} {as bs : List Sl} {d : D} {Q : D → List Sl → Prop} {g : Tg Q} (h : fn as = .val d bs) (k : Q d bs) : runC Q g (fn as) := by unfold runC; rw [h]; exact k
/-- a loop by an invariant -/
theorem for_run {b : Bd} {ds : List D} {g : Tg (b, s, QS)} (I : List D → Nv → Prop) (h0 : I ds E) (turn : ∀ d r E, I (d :: r) E → someK (fun E1 => run (loopK I r QS ()) () (s E1)) () (b d E)) (fin : ∀ E, I [] E → QS .nx E) : forK b s QS g ds E :=
  for_wp I h0 turn fin
/-- a loop over x :: the rest, by a state of your own -/
theorem for_state {σ : Type} {b : Bd} {ds : List D} {g : Tg (b, s, QS)} (env : σ → Nv → Prop) (I : List D → σ → Prop) (x0 : σ) (h0 : env x0 E) (i0 : I ds x0)
    (turn : ∀ d r x E, I (d :: r) x → env x E → someK (fun E1 => run (loopK (fun r E => ∃ y, env y E ∧ I r y) r QS ()) () (s E1)) () (b d E)) (fin : ∀ x E, env x E → I [] x → QS .nx E) : forK b s QS g ds E :=
  for_run (fun r E => ∃ y, env y E ∧ I r y) ⟨x0, h0, i0⟩ (fun d r E ⟨y, h1, h2⟩ => turn d r y E h2 h1) fun E ⟨y, h1, h2⟩ => fin y E h1 h2
/-- a comprehension by an invariant -/
theorem lc_run {b : Bd} {ds : List D} {vs : List Nat} {g : Tg (b, t, f, vs, QD)} (I : List D → List D → Nv → Prop) (h0 : I ds [] (wipeE E vs))
    (turn : ∀ d r acc E, I (d :: r) acc E → someK (fun E1 => run (fun k E2 => ifK f (fun E => R.bad) (fun x E3 => acc.length < sizeLine ∧ I r (acc ++ [x]) (wipeE E3 vs)) () k E2 ∨ (k = false ∧ I r acc (wipeE E2 vs))) () (t E1)) () (b d E))
    (fin : ∀ acc E2, I [] acc E2 → QD (.lst acc) (restoreE E E2 vs)) : lcK b t f vs QD g ds E := by
  refine wp_lcL I h0 (fun d r acc E h => ?_) fin
  obtain ⟨E1, e, w⟩ := turn d r acc E h
  refine ⟨E1, e, wp_imp w fun k E2 q => ?_⟩
  cases k with
  | true =>
    rcases q with q | ⟨q, _⟩
    · exact q
    · cases q
  | false =>
    rcases q with q | ⟨_, q⟩
    · exact (show False from q).elim
    · exact q
/-- a comprehension, no test, whose element is known and leaves the slots -/
theorem lc_map {b : Bd} {ds : List D} {vs : List Nat} {g : Tg (b, tYesF, f, vs, QD)} (k : D → D) (hl : ds.length ≤ sizeLine)
    (turn : ∀ d, d ∈ ds → someK (fun E1 => run (fun x E3 => x = k d ∧ wipeE E3 vs = wipeE E vs) () (f E1)) () (b d (wipeE E vs)))
    (fin : QD (.lst (ds.map k)) (restoreE E (wipeE E vs) vs)) : lcK b tYesF f vs QD g ds E := by
  refine lc_run (fun r acc E2 => ∃ l, ds = l ++ r ∧ acc = l.map k ∧ E2 = wipeE E vs) ⟨[], rfl, rfl, rfl⟩ ?_ ?_
  · rintro d r acc E2 ⟨l, rfl, rfl, rfl⟩
    obtain ⟨E1, e, w⟩ := turn d (by simp)
    refine ⟨E1, e, .inl (wp_imp w ?_)⟩
    rintro x E3 ⟨rfl, e3⟩
    refine ⟨?_, l ++ [d], by simp, by simp, e3⟩
    have : (l ++ d :: r).length = l.length + r.length + 1 := by simp; omega
    rw [List.length_map]; omega
  · rintro acc E2 ⟨l, rfl, rfl, rfl⟩
    simpa using fin
theorem once_0 : once [] = true := rfl
def pkIs (j : Nat) (a : Ar) : Bool := match a with
  | .pk i => i == j
  | _ => false
theorem pkIs_v : pkIs j (.v d) = false := rfl
theorem pkIs_pk : pkIs j (.pk i) = (i == j) := rfl
theorem once_v {r : List Ar} : once (.v d :: r) = once r := by rw [once]; intro _ h; cases h
theorem once_pk {r : List Ar} : once (.pk j :: r) = (!(r.any (pkIs j)) && once r) := rfl
theorem sh_0 : shape [] [] = true := rfl
theorem sh_fz' {a b : List Sl} {x : Sl} : shape (.fz d :: a) (x :: b) = shape a b := by rw [shape] <;> (intros; contradiction)
theorem sh_bor' {a b : List Sl} {k k' : Nat} {x : D} : shape (.bor k d :: a) (.bor k' x :: b) = shape a b := rfl
theorem B64_def {i : Int} : B64 i = (-(2 ^ 64) < i ∧ i < 2 ^ 64) := propext ⟨id, id⟩
theorem B63_def {i : Int} : B63 i = (-(2 ^ 63) ≤ i ∧ i < 2 ^ 63) := propext ⟨id, id⟩
theorem B62_def {i : Int} : B62 i = (-(2 ^ 62) ≤ i ∧ i < 2 ^ 62) := propext ⟨id, id⟩
theorem x_tYes {g : Tg QB} : run QB g (tYesF E) = QB true E := rfl
theorem x_ixL {ds : List D} {i : Int} : oIx (.lst ds) (.int i) = atI ds i := rfl
theorem x_ixT {ds : List D} {i : Int} : oIx (.tup ds) (.int i) = atI ds i := rfl
theorem tIsi {x : D} {T : String} : oIsi [x, .ty T] = (tyName x).bind fun t => if tgs.contains T = true then some (.bl (subTy t T)) else none := by
  show ((isiOne x (.ty T)).map D.bl) = _
  unfold isiOne
  cases tyName x with
  | none => rfl
  | some t => by_cases h : tgs.contains T = true <;> simp [h]
theorem tgs_int : tgs.contains "int" = true := by decide
theorem tgs_bool : tgs.contains "bool" = true := by decide
theorem tgs_tuple : tgs.contains "tuple" = true := by decide
theorem tgs_list : tgs.contains "list" = true := by decide
theorem tgs_str : tgs.contains "str" = true := by decide
theorem st_ii : subTy "int" "int" = true := by decide
theorem st_ib : subTy "int" "bool" = false := by decide
theorem st_bi : subTy "bool" "int" = true := by decide
theorem st_bb : subTy "bool" "bool" = true := by decide
theorem st_tt : subTy "tuple" "tuple" = true := by decide
theorem st_ti : subTy "tuple" "int" = false := by decide
theorem st_it : subTy "int" "tuple" = false := by decide
theorem st_ll : subTy "list" "list" = true := by decide
theorem st_lt : subTy "list" "tuple" = false := by decide
theorem st_tl : subTy "tuple" "list" = false := by decide
theorem st_ni : subTy "NoneType" "int" = false := by decide
theorem st_nb : subTy "NoneType" "bool" = false := by decide
theorem st_nt : subTy "NoneType" "tuple" = false := by decide
theorem st_nl : subTy "NoneType" "list" = false := by decide
theorem st_tb : subTy "tuple" "bool" = false := by decide
theorem st_lb : subTy "list" "bool" = false := by decide
theorem st_li : subTy "list" "int" = false := by decide
theorem st_il : subTy "int" "list" = false := by decide
theorem st_bt : subTy "bool" "tuple" = false := by decide
theorem st_bl' : subTy "bool" "list" = false := by decide
end
end FL

namespace FL
open PySem PySem.Spec PyProof.Rows L2
/-! ## loops over lists that are made of things of your own -/
def lpK (J : Nv → Prop) (Q : Fl → Nv → Prop) (_ : Tg (J, Q)) (fl : Fl) (E : Nv) : Prop := match fl with
  | .nx => J E
  | .ct => J E
  | .bk => Q .nx E
  | fl => Q fl E
def tsK (f : Nv → R D) (J : D → Nv → Prop) (N : Nv → Prop) (_ : Tg (f, J, N)) (b : Bool) (E : Nv) : Prop := if b = true then run J () (f E) else N E
section
variable {E : Nv} {QD : D → Nv → Prop} {QS : Fl → Nv → Prop} {f : Nv → R D} {t : Nv → R Bool} {s : Nv → R Fl} {J : Nv → Prop} {JD : D → Nv → Prop} {d : D} {b : Bd} {ds : List D} {α β : Type}
theorem lpK_nx {g : Tg (J, QS)} : lpK J QS g .nx E = J E := rfl
theorem lpK_ct {g : Tg (J, QS)} : lpK J QS g .ct E = J E := rfl
theorem lpK_bk {g : Tg (J, QS)} : lpK J QS g .bk E = QS .nx E := rfl
theorem lpK_rt {g : Tg (J, QS)} : lpK J QS g (.rt d) E = QS (.rt d) E := rfl
theorem lpK_rn {g : Tg (J, QS)} : lpK J QS g (.rn d) E = QS (.rn d) E := rfl
theorem tsK_t {g : Tg (f, JD, J)} : tsK f JD J g true E = run JD () (f E) := rfl
theorem tsK_f {g : Tg (f, JD, J)} : tsK f JD J g false E = J E := rfl
theorem tsK_if {g : Tg (f, JD, J)} {k : Bool} (h1 : k = true → run JD () (f E)) (h2 : k = false → J E) : tsK f JD J g k E := by
  cases k with
  | true => exact h1 rfl
  | false => exact h2 rfl
/-- by the rest -/
theorem for_maps {f : α → D} {xs : List α} {g : Tg (b, s, QS)} (P : List α → Nv → Prop) (h0 : P xs E)
    (turn : ∀ x r E, P (x :: r) E → someK (fun E1 => run (lpK (P r) QS ()) () (s E1)) () (b (f x) E)) (fin : ∀ E, P [] E → QS .nx E) : forK b s QS g (xs.map f) E := by
  refine for_run (fun r E => ∃ rs, r = rs.map f ∧ P rs E) ⟨xs, rfl, h0⟩ (fun d r E h => ?_) (fun E h => ?_)
  · obtain ⟨rs, e, p⟩ := h
    cases rs with
    | nil => cases e
    | cons x rs =>
      cases e
      obtain ⟨E1, e1, w⟩ := turn x rs E p
      refine ⟨E1, e1, wp_imp w fun fl E2 q => ?_⟩
      cases fl with
      | nx => exact ⟨rs, rfl, q⟩
      | ct => exact ⟨rs, rfl, q⟩
      | _ => exact q
  · obtain ⟨rs, e, p⟩ := h
    cases rs with
    | nil => exact fin E p
    | cons x rs => cases e
theorem for_ds {g : Tg (b, s, QS)} (P : List D → Nv → Prop) (h0 : P ds E)
    (turn : ∀ x r E, P (x :: r) E → someK (fun E1 => run (lpK (P r) QS ()) () (s E1)) () (b x E)) (fin : ∀ E, P [] E → QS .nx E) : forK b s QS g ds E := by
  have := for_maps (b := b) (s := s) (QS := QS) (g := g) (f := fun x => x) P h0 turn fin
  simpa using this
theorem enumD_map {f : α → D} : ∀ (n : Nat) (xs : List α), enumD n (xs.map f) = (xs.zipIdx n).map fun p => .tup [.int (p.2 : Nat), f p.1]
  | _, [] => rfl
  | n, x :: xs => by
    rw [List.map_cons, enumD, List.zipIdx_cons, List.map_cons, enumD_map (n + 1) xs]
theorem for_enum {f : α → D} {xs : List α} {g : Tg (b, s, QS)} (P : Nat → List α → Nv → Prop) (h0 : P 0 xs E)
    (turn : ∀ n x r E, P n (x :: r) E → someK (fun E1 => run (lpK (P (n + 1) r) QS ()) () (s E1)) () (b (.tup [.int (n : Nat), f x]) E)) (fin : ∀ n E, P n [] E → QS .nx E) : forK b s QS g (enumD 0 (xs.map f)) E := by
  rw [enumD_map]
  refine for_maps (fun r E => ∃ n rs, r = rs.zipIdx n ∧ P n rs E) ⟨0, xs, rfl, h0⟩ (fun p r E h => ?_) (fun E h => ?_)
  · obtain ⟨n, rs, e, p⟩ := h
    cases rs with
    | nil => cases e
    | cons x rs =>
      rw [List.zipIdx_cons] at e
      cases e
      obtain ⟨E1, e1, w⟩ := turn n x rs E p
      refine ⟨E1, e1, wp_imp w fun fl E2 q => ?_⟩
      cases fl with
      | nx => exact ⟨n + 1, rs, rfl, q⟩
      | ct => exact ⟨n + 1, rs, rfl, q⟩
      | _ => exact q
  · obtain ⟨n, rs, e, p⟩ := h
    cases rs with
    | nil => exact fin n E p
    | cons x rs => rw [List.zipIdx_cons] at e; cases e
theorem for_rng {lo : Int} {n : Nat} {g : Tg (b, s, QS)} (P : Nat → Nv → Prop) (h0 : P 0 E)
    (turn : ∀ i E, i < n → P i E → someK (fun E1 => run (lpK (P (i + 1)) QS ()) () (s E1)) () (b (.int (lo + i)) E)) (fin : ∀ E, P n E → QS .nx E) : forK b s QS g (rangeD lo n) E := by
  refine for_maps (fun r E => ∃ i, r = (List.range n).drop i ∧ i ≤ n ∧ P i E) ⟨0, rfl, Nat.zero_le _, h0⟩ (fun x r E h => ?_) (fun E h => ?_)
  · obtain ⟨i, e, hi, p⟩ := h
    by_cases hl : i < n
    · rw [List.drop_eq_getElem_cons (by simpa using hl)] at e
      cases e
      obtain ⟨E1, e1, w⟩ := turn i E hl p
      simp only [List.getElem_range]
      refine ⟨E1, e1, wp_imp w fun fl E2 q => ?_⟩
      cases fl with
      | nx => exact ⟨i + 1, rfl, hl, q⟩
      | ct => exact ⟨i + 1, rfl, hl, q⟩
      | _ => exact q
    · rw [List.drop_eq_nil_of_le (by simp; omega)] at e
      cases e
  · obtain ⟨i, e, hi, p⟩ := h
    have : n ≤ i := by simpa [List.drop_eq_nil_iff] using e.symm
    have : i = n := by omega
    subst this
    exact fin E p
/-- a comprehension over things of your own -/
theorem lc_maps {k : α → D} {xs : List α} {vs : List Nat} {g : Tg (b, t, f, vs, QD)} (hl : xs.length ≤ sizeLine) (P : List α → List D → Nv → Prop) (h0 : P xs [] (wipeE E vs))
    (turn : ∀ x r acc E, P (x :: r) acc E → someK (fun E1 => run (tsK f (fun y E3 => P r (acc ++ [y]) (wipeE E3 vs)) (fun E2 => P r acc (wipeE E2 vs)) ()) () (t E1)) () (b (k x) E))
    (fin : ∀ acc E2, P [] acc E2 → QD (.lst acc) (restoreE E E2 vs)) : lcK b t f vs QD g (xs.map k) E := by
  refine wp_lcL (fun r acc E => ∃ rs, r = rs.map k ∧ acc.length + rs.length ≤ sizeLine ∧ P rs acc E) ⟨xs, rfl, by simpa using hl, h0⟩ (fun d r acc E h => ?_) (fun acc E h => ?_)
  · obtain ⟨rs, e, hs, p⟩ := h
    cases rs with
    | nil => cases e
    | cons x rs =>
      cases e
      rw [List.length_cons] at hs
      obtain ⟨E1, e1, w⟩ := turn x rs acc E p
      refine ⟨E1, e1, wp_imp w fun c E2 q => ?_⟩
      cases c with
      | true =>
        rw [if_pos rfl]
        have q : wp (f E2) _ := q
        refine wp_imp q fun y E3 q2 => ⟨by omega, rs, rfl, ?_, q2⟩
        rw [List.length_append, List.length_singleton]; omega
      | false => exact ⟨rs, rfl, by omega, q⟩
  · obtain ⟨rs, e, hs, p⟩ := h
    cases rs with
    | nil => exact fin acc E p
    | cons x rs => cases e
theorem lc_ds {vs : List Nat} {g : Tg (b, t, f, vs, QD)} (hl : ds.length ≤ sizeLine) (P : List D → List D → Nv → Prop) (h0 : P ds [] (wipeE E vs))
    (turn : ∀ x r acc E, P (x :: r) acc E → someK (fun E1 => run (tsK f (fun y E3 => P r (acc ++ [y]) (wipeE E3 vs)) (fun E2 => P r acc (wipeE E2 vs)) ()) () (t E1)) () (b x E))
    (fin : ∀ acc E2, P [] acc E2 → QD (.lst acc) (restoreE E E2 vs)) : lcK b t f vs QD g ds E := by
  have := lc_maps (b := b) (t := t) (f := f) (QD := QD) (g := g) (k := fun x => x) hl P h0 turn fin
  simpa using this
/-- .. whose element is a function of the thing and that leaves the slots -/
theorem lc_fun {k : α → D} {xs : List α} {vs : List Nat} {g : Tg (b, tYesF, f, vs, QD)} (hl : xs.length ≤ sizeLine) (h : α → D)
    (turn : ∀ x, x ∈ xs → someK (fun E1 => run (fun y E3 => y = h x ∧ wipeE E3 vs = wipeE E vs) () (f E1)) () (b (k x) (wipeE E vs)))
    (fin : QD (.lst (xs.map h)) (restoreE E (wipeE E vs) vs)) : lcK b tYesF f vs QD g (xs.map k) E := by
  refine lc_maps hl (fun r acc E2 => ∃ l, xs = l ++ r ∧ acc = l.map h ∧ E2 = wipeE E vs) ⟨[], rfl, rfl, rfl⟩ ?_ ?_
  · rintro x r acc E2 ⟨l, rfl, rfl, rfl⟩
    obtain ⟨E1, e, w⟩ := turn x (by simp)
    refine ⟨E1, e, wp_imp (r := f E1) w ?_⟩
    rintro y E3 ⟨rfl, e3⟩
    exact ⟨l ++ [x], by simp, by simp, e3⟩
  · rintro acc E2 ⟨l, rfl, rfl, rfl⟩
    simpa using fin
theorem lc_rng {lo : Int} {n : Nat} {vs : List Nat} {g : Tg (b, t, f, vs, QD)} (hl : n ≤ sizeLine) (P : Nat → List D → Nv → Prop) (h0 : P 0 [] (wipeE E vs))
    (turn : ∀ i acc E, i < n → P i acc E → someK (fun E1 => run (tsK f (fun y E3 => P (i + 1) (acc ++ [y]) (wipeE E3 vs)) (fun E2 => P (i + 1) acc (wipeE E2 vs)) ()) () (t E1)) () (b (.int (lo + i)) E))
    (fin : ∀ acc E2, P n acc E2 → QD (.lst acc) (restoreE E E2 vs)) : lcK b t f vs QD g (rangeD lo n) E := by
  refine lc_maps (by simpa using hl) (fun r acc E => ∃ i, r = (List.range n).drop i ∧ i ≤ n ∧ P i acc E) ⟨0, rfl, Nat.zero_le _, h0⟩ (fun x r acc E h => ?_) (fun acc E h => ?_)
  · obtain ⟨i, e, hi, p⟩ := h
    by_cases hl : i < n
    · rw [List.drop_eq_getElem_cons (by simpa using hl)] at e
      cases e
      obtain ⟨E1, e1, w⟩ := turn i acc E hl p
      simp only [List.getElem_range]
      refine ⟨E1, e1, wp_imp w fun c E2 q => ?_⟩
      cases c with
      | true => exact wp_imp (r := f E2) q fun y E3 q2 => ⟨i + 1, rfl, hl, q2⟩
      | false => exact ⟨i + 1, rfl, hl, q⟩
    · rw [List.drop_eq_nil_of_le (by simp; omega)] at e
      cases e
  · obtain ⟨i, e, hi, p⟩ := h
    have : n ≤ i := by simpa [List.drop_eq_nil_iff] using e.symm
    have : i = n := by omega
    subst this
    exact fin acc E p
end
/-! ## what is looked at, further -/
section
variable {α : Type}
theorem atI_get {xs : List α} {i : Int} {x : α} (h : 0 ≤ i) (e : xs[i.toNat]? = some x) : atI xs i = some x := by rw [atI_pos h]; exact e
theorem atI_map {β : Type} {f : α → β} {xs : List α} {i : Int} {x : α} (h : 0 ≤ i) (e : xs[i.toNat]? = some x) : atI (xs.map f) i = some (f x) := by
  rw [atI_pos h, List.getElem?_map, e]; rfl
theorem asBs_map {f : α → Bool} : ∀ xs : List α, asBs (xs.map fun x => D.bl (f x)) = some (xs.map f)
  | [] => rfl
  | x :: xs => by rw [List.map_cons, asBs, asBs_map xs]; rfl
theorem oAll_map {f : α → Bool} {xs : List α} : oAll [.lst (xs.map fun x => D.bl (f x))] = some (.bl (xs.all f)) := by
  unfold oAll; simp only [asBs_map]; simp [List.all_map]
theorem oAny_map {f : α → Bool} {xs : List α} : oAny [.lst (xs.map fun x => D.bl (f x))] = some (.bl (xs.any f)) := by
  unfold oAny; simp only [asBs_map]; simp [List.any_map]
theorem zipD_map {β : Type} {f : α → D} {h : β → D} (xs : List α) (ys : List β) : zipD (xs.map f) (ys.map h) = (xs.zip ys).map fun p => .tup [f p.1, h p.2] := by
  unfold zipD; rw [List.zip_map, List.map_map]; rfl
end

theorem x_slT {ds : List D} {lo hi : Option Int} : oSl (.tup ds) lo hi = some (.tup (cutL ds lo hi)) := rfl
theorem x_slL {ds : List D} {lo hi : Option Int} : oSl (.lst ds) lo hi = some (.lst (cutL ds lo hi)) := rfl
theorem x_slS {ns : List Int} {lo hi : Option Int} : oSl (.scr ns) lo hi = some (.lst (cutL (ns.map .int) lo hi)) := rfl
theorem cut_hi {α : Type} {xs : List α} {i : Int} (h : 0 ≤ i) : cutL xs none (some i) = xs.take i.toNat := by
  obtain ⟨n, rfl⟩ := Int.eq_ofNat_of_zero_le h
  unfold cutL; rw [HT.sIx_none, HT.sIx_nat]; simp
theorem cut_lo {α : Type} {xs : List α} {i : Int} (h : 0 ≤ i) : cutL xs (some i) none = xs.drop i.toNat := by
  obtain ⟨n, rfl⟩ := Int.eq_ofNat_of_zero_le h
  unfold cutL; rw [HT.sIx_none, HT.sIx_nat]
  by_cases hn : n ≤ xs.length
  · rw [Nat.min_eq_left hn, List.take_of_length_le (by simp)]; rfl
  · rw [Nat.min_eq_right (by omega), List.drop_length, List.take_nil, List.drop_eq_nil_of_le (by simp; omega)]
theorem cut_lohi {α : Type} {xs : List α} {i j : Int} (h : 0 ≤ i) (h2 : 0 ≤ j) : cutL xs (some i) (some j) = (xs.take j.toNat).drop i.toNat := by
  obtain ⟨n, rfl⟩ := Int.eq_ofNat_of_zero_le h
  obtain ⟨m, rfl⟩ := Int.eq_ofNat_of_zero_le h2
  unfold cutL; rw [HT.sIx_nat, HT.sIx_nat, List.drop_take]
  simp only [Int.toNat_natCast]
  by_cases hn : n ≤ xs.length
  · by_cases hm : m ≤ xs.length
    · rw [Nat.min_eq_left hn, Nat.min_eq_left hm]
    · rw [Nat.min_eq_left hn, Nat.min_eq_right (by omega), List.take_of_length_le (by simp), List.take_of_length_le (by simp; omega)]
  · rw [Nat.min_eq_right (by omega : xs.length ≤ n), List.drop_length, List.drop_eq_nil_of_le (by omega : xs.length ≤ n)]; simp
theorem x_itT {ds : List D} : itAny (.tup ds) = some ds := rfl
theorem x_itL {ds : List D} : itAny (.lst ds) = some ds := rfl
theorem x_itS {ns : List Int} : itAny (.scr ns) = some (ns.map .int) := rfl
open Classical in
theorem x_itR1 {j : Int} : itR [.int j] = if B62 j then some (rangeD 0 j.toNat) else none := rfl
open Classical in
theorem x_itR2 {i j : Int} : itR [.int i, .int j] = if B62 i ∧ B62 j then some (rangeD i (j - i).toNat) else none := rfl
theorem x_itZT {a b : List D} : itZ [.tup a, .tup b] = some (zipD a b) := rfl
theorem x_itZL {a b : List D} : itZ [.lst a, .lst b] = some (zipD a b) := rfl
theorem x_itET {a : List D} : itE [.tup a] = some (enumD 0 a) := rfl
theorem x_itEL {a : List D} : itE [.lst a] = some (enumD 0 a) := rfl
theorem x_app {ds : List D} {d : D} : mAppend (.lst ds) [d] = if ds.length < sizeLine then some (.non, .lst (ds ++ [d])) else none := rfl
/-! ## data of a kind, compared -/
structure Enc {α : Type} [DecidableEq α] (f : α → D) (n : Nat) : Prop where
  ex : ∃ g : α → PyData, ∀ a, toPy (f a) = some (g a) ∧ PyData.canLay0 (g a) = true ∧ PyData.depth (g a) ≤ n ∧ ∀ b, PyData.eqv (g a) (g b) = decide (a = b)
theorem toPyL_map {α : Type} {f : α → D} {g : α → PyData} (h : ∀ a, toPy (f a) = some (g a)) : ∀ xs : List α, toPyL (xs.map f) = some (xs.map g)
  | [] => rfl
  | x :: xs => by rw [List.map_cons, toPyL, h x, toPyL_map h xs]; rfl
theorem lay_map {α : Type} {g : α → PyData} (h : ∀ a, PyData.canLay0 (g a) = true) : ∀ xs : List α, PyData.canLayAll0 (xs.map g) = true
  | [] => rfl
  | x :: xs => by rw [List.map_cons, PyData.canLayAll0, h x, lay_map h xs]; rfl
theorem depth_map {α : Type} {g : α → PyData} {n : Nat} (h : ∀ a, PyData.depth (g a) ≤ n) : ∀ xs : List α, PyData.depthAll (xs.map g) ≤ n
  | [] => by simp [PyData.depthAll]
  | x :: xs => by rw [List.map_cons, PyData.depthAll]; exact Nat.max_le.mpr ⟨h x, depth_map h xs⟩
theorem eqv_map {α : Type} [DecidableEq α] {g : α → PyData} (h : ∀ a b, PyData.eqv (g a) (g b) = decide (a = b)) : ∀ xs ys : List α, PyData.eqvAll (xs.map g) (ys.map g) = decide (xs = ys)
  | [], [] => by rfl
  | [], y :: ys => by simp [PyData.eqvAll]
  | x :: xs, [] => by simp [PyData.eqvAll]
  | x :: xs, y :: ys => by rw [List.map_cons, List.map_cons, PyData.eqvAll, h x y, eqv_map h xs ys]; simp
theorem Enc.eq {α : Type} [DecidableEq α] {f : α → D} {n : Nat} (h : Enc f n) (hn : n ≤ 60) (a b : α) : oEq (f a) (f b) = some (.bl (decide (a = b))) := by
  obtain ⟨g, hg⟩ := h.ex
  unfold oEq dEq
  rw [(hg a).1, (hg b).1]
  have ha : SeqAt.shaped (g a) = true := by unfold SeqAt.shaped; rw [(hg a).2.1, decide_eq_true (Nat.le_trans (hg a).2.2.1 (by omega))]; rfl
  have hb : SeqAt.shaped (g b) = true := by unfold SeqAt.shaped; rw [(hg b).2.1, decide_eq_true (Nat.le_trans (hg b).2.2.1 (by omega))]; rfl
  simp only
  rw [if_pos ⟨ha, hb⟩, (hg a).2.2.2 b]; rfl
theorem Enc.ne {α : Type} [DecidableEq α] {f : α → D} {n : Nat} (h : Enc f n) (hn : n ≤ 60) (a b : α) : oNe (f a) (f b) = some (.bl (!decide (a = b))) := by
  have e := h.eq hn a b
  unfold oEq at e
  unfold oNe
  cases z : dEq (f a) (f b) with
  | none => rw [z] at e; cases e
  | some k => rw [z] at e; cases e; rfl
theorem Enc.anyIn {α : Type} [DecidableEq α] {g : α → PyData} {a : α} (h : ∀ a b, PyData.eqv (g a) (g b) = decide (a = b)) : ∀ xs : List α, ((xs.map g).any fun z => PyData.eqv z (g a)) = decide (a ∈ xs)
  | [] => by simp
  | x :: xs => by
    rw [List.map_cons, List.any_cons, Enc.anyIn h xs, h x a]
    by_cases e : x = a
    · subst e; simp
    · simp [e, Ne.symm e]
theorem Enc.inL {α : Type} [DecidableEq α] {f : α → D} {n : Nat} (h : Enc f n) (hn : n ≤ 50) (a : α) (xs : List α) : dIn (f a) (.lst (xs.map f)) = some (decide (a ∈ xs)) := by
  obtain ⟨g, hg⟩ := h.ex
  unfold dIn
  simp only [(hg a).1, toPyL_map (fun a => (hg a).1)]
  have ha : SeqAt.shaped (g a) = true := by unfold SeqAt.shaped; rw [(hg a).2.1, decide_eq_true (Nat.le_trans (hg a).2.2.1 (by omega))]; rfl
  have hb : SeqAt.shaped (.list (xs.map g)) = true := by
    unfold SeqAt.shaped PyData.canLay0 PyData.depth
    rw [lay_map (fun a => (hg a).2.1)]
    have := depth_map (fun a => (hg a).2.2.1) xs
    rw [decide_eq_true (by omega)]; rfl
  rw [if_pos ⟨ha, hb⟩, Enc.anyIn (fun a b => (hg a).2.2.2 b)]
theorem Enc.inT {α : Type} [DecidableEq α] {f : α → D} {n : Nat} (h : Enc f n) (hn : n ≤ 50) (a : α) (xs : List α) : dIn (f a) (.tup (xs.map f)) = some (decide (a ∈ xs)) := h.inL hn a xs
theorem Enc.oInL {α : Type} [DecidableEq α] {f : α → D} {n : Nat} (h : Enc f n) (hn : n ≤ 50) (a : α) (xs : List α) : oIn (f a) (.lst (xs.map f)) = some (.bl (decide (a ∈ xs))) := by unfold oIn; rw [h.inL hn]; rfl
theorem Enc.oInT {α : Type} [DecidableEq α] {f : α → D} {n : Nat} (h : Enc f n) (hn : n ≤ 50) (a : α) (xs : List α) : oIn (f a) (.tup (xs.map f)) = some (.bl (decide (a ∈ xs))) := by unfold oIn; rw [h.inT hn]; rfl
theorem Enc.oNotInL {α : Type} [DecidableEq α] {f : α → D} {n : Nat} (h : Enc f n) (hn : n ≤ 50) (a : α) (xs : List α) : oNotIn (f a) (.lst (xs.map f)) = some (.bl (!decide (a ∈ xs))) := by unfold oNotIn; rw [h.inL hn]; rfl
theorem Enc.oNotInT {α : Type} [DecidableEq α] {f : α → D} {n : Nat} (h : Enc f n) (hn : n ≤ 50) (a : α) (xs : List α) : oNotIn (f a) (.tup (xs.map f)) = some (.bl (!decide (a ∈ xs))) := by unfold oNotIn; rw [h.inT hn]; rfl
theorem Enc.tup {α : Type} [DecidableEq α] {f : α → D} {n : Nat} (h : Enc f n) : Enc (fun xs : List α => D.tup (xs.map f)) (n + 1) := by
  obtain ⟨g, hg⟩ := h.ex
  refine ⟨fun xs => .tuple (xs.map g), fun xs => ⟨?_, ?_, ?_, fun ys => ?_⟩⟩
  · unfold toPy; rw [toPyL_map (fun a => (hg a).1)]; rfl
  · unfold PyData.canLay0; exact lay_map (fun a => (hg a).2.1) xs
  · have := depth_map (fun a => (hg a).2.2.1) xs
    unfold PyData.depth; omega
  · unfold PyData.eqv; exact eqv_map (fun a b => (hg a).2.2.2 b) xs ys
theorem Enc.lst {α : Type} [DecidableEq α] {f : α → D} {n : Nat} (h : Enc f n) : Enc (fun xs : List α => D.lst (xs.map f)) (n + 1) := by
  obtain ⟨g, hg⟩ := h.ex
  refine ⟨fun xs => .list (xs.map g), fun xs => ⟨?_, ?_, ?_, fun ys => ?_⟩⟩
  · unfold toPy; rw [toPyL_map (fun a => (hg a).1)]; rfl
  · unfold PyData.canLay0; exact lay_map (fun a => (hg a).2.1) xs
  · have := depth_map (fun a => (hg a).2.2.1) xs
    unfold PyData.depth; omega
  · unfold PyData.eqv; exact eqv_map (fun a b => (hg a).2.2.2 b) xs ys
theorem Enc.int : Enc D.int 0 := ⟨fun i => .int i, fun a => ⟨rfl, rfl, Nat.le_refl _, fun b => by unfold PyData.eqv; exact rfl⟩⟩
def oD : Option Int → D
  | none => .non
  | some i => .int i
def oPy : Option Int → PyData
  | none => .none
  | some i => .int i
theorem Enc.opt : Enc oD 0 := ⟨oPy, fun a => ⟨by cases a <;> rfl, by cases a <;> rfl, by cases a <;> exact Nat.le_refl _, fun b => by
  cases a <;> cases b <;> simp [oPy, PyData.eqv]
  rename_i a b
  by_cases h : a = b <;> simp [h]⟩⟩
abbrev L3 := Int × Int × Int
def lD (l : L3) : D := .tup [.int l.1, .int l.2.1, .int l.2.2]
theorem Enc.l3 : Enc lD 1 := ⟨fun l => .tuple [.int l.1, .int l.2.1, .int l.2.2], fun a => ⟨rfl, rfl, by simp [PyData.depth, PyData.depthAll], fun b => by
  obtain ⟨a1, a2, a3⟩ := a
  obtain ⟨b1, b2, b3⟩ := b
  simp only [PyData.eqv, PyData.eqvAll, Bool.and_true, Prod.mk.injEq]
  by_cases h1 : a1 = b1 <;> by_cases h2 : a2 = b2 <;> by_cases h3 : a3 = b3 <;> simp [h1, h2, h3]⟩⟩

/-! ## instances -/
def rSF (s : Option Sl) (f : Str) (d : D) : Option Sl := match s with
  | some s => match s.cell with
    | some (.ins c ns ds) => if ns.length < 900 then some (s.put (.ins c (putN f ns) (putD f d ns ds))) else none
    | _ => none
  | none => none
def mkK (Q : D → Nv → Prop) (_ : Tg Q) (n : Nat) (d : D) (E : Nv) : Prop := d = .non ∧ ∃ x, E[n]? = some (.own x) ∧ Q x (E.take n)
def mkK2 (Q : D → Nv → Prop) (_ : Tg Q) (s : Option Sl) (E : Nv) : Prop := ∃ x, s = some (.own x) ∧ Q x E
def eqK (c : Nat) (fn : Fn) (a b : Ar) (Q : D → Nv → Prop) (_ : Tg (fn, Q)) (E : Nv) (x y : Option D) : Prop := match x, y with
  | some (.ins c1 _ _), some (.ins c2 _ _) => c1 = c ∧ c2 = c ∧ calK fn [a, b] (fun d E2 => run (fun k E3 => Q (.bl k) E3) () (R.some (asB d) E2)) () E (lend E 0 [a, b])
  | _, _ => False
section
variable {E : Nv} {QD : D → Nv → Prop} {QS : Fl → Nv → Prop} {fa fb : Nv → R Ar} {fl : Nv → R (List Ar)} {f : Nv → R D} {i c : Nat} {fn : Fn} {d : D} {a b : Ar}
theorem x_fSetFld' {n : Str} {g : Tg QS} : run QS g (fSetFld i n f E) = run (fun d E1 => run (fun _ E2 => run (fun x E3 => QS .nx (E3.set i x)) () (R.some (rSF E2[i]? n d) E2)) () (fPk i E1)) () (f E) := by
  rw [x_fSetFld]; unfold run; congr; funext d E1; congr; funext a E2
  unfold setFld rSF
  cases E2[i]? with
  | none => rfl
  | some s =>
    cases z : s.cell with
    | none => simp [z, R.some, wp]
    | some c =>
      cases c <;> simp [z, R.some, wp]
      rename_i ns ds
      by_cases h : ns.length < 900 <;> simp [h]
theorem rSF_bor {k : Nat} {n : Str} {c : Nat} {ns : List Str} {ds : List D} : rSF (some (.bor k (.ins c ns ds))) n d = if ns.length < 900 then some (.bor k (.ins c (putN n ns) (putD n d ns ds))) else none := rfl
theorem rSF_own {n : Str} {c : Nat} {ns : List Str} {ds : List D} : rSF (some (.own (.ins c ns ds))) n d = if ns.length < 900 then some (.own (.ins c (putN n ns) (putD n d ns ds))) else none := rfl
theorem run_resC {fn : Fn} {as : List Ar} {g : Tg QD} : run QD g (resC fn as E) = calK fn as QD () E (lend E 0 as) := by
  unfold run calK
  cases z : lend E 0 as with
  | none => simp [resC, z, wp]
  | some xs =>
    by_cases ho : once as = true
    · rw [wp_resC z ho]; simp [ho]
    · simp [resC, z, ho, wp]
theorem x_fMake {g : Tg QD} : run QD g (fMake c fn fl E) = run (fun as E1 => calK fn (.pk E1.length :: as) (mkK QD () E1.length) () (E1 ++ [.own (.ins c [] [])]) (lend (E1 ++ [.own (.ins c [] [])]) 0 (.pk E1.length :: as))) () (fl E) := by
  unfold run fMake
  rw [wp_bind]; congr; funext as E1
  rw [← run_resC (g := ())]
  unfold run resMk
  cases resC fn (.pk E1.length :: as) (E1 ++ [.own (.ins c [] [])]) with
  | bad => rfl
  | exc _ _ _ => rfl
  | val d E2 =>
    unfold mkK
    simp only [wp]
    cases d with
    | non =>
      simp only
      cases E2[E1.length]? with
      | none => simp [wp]
      | some s => cases s <;> simp [wp]
    | _ => simp [wp]
theorem mkK_s {n : Nat} {g : Tg QD} : mkK QD g n .non E = mkK2 QD () E[n]? (E.take n) := by unfold mkK mkK2; simp
theorem mkK2_s {g : Tg QD} : mkK2 QD g (some (.own d)) E = QD d E := by unfold mkK2; simp
theorem x_fEqI {g : Tg QD} : run QD g (fEqI c fn fa fb E) = run (fun a E1 => run (fun b E2 => eqK c fn a b QD () E2 (a.get E2) (b.get E2)) () (fb E1)) () (fa E) := by
  unfold run fEqI
  simp only [wp_bind]
  congr; funext a E1; congr; funext b E2
  unfold resEq eqK
  cases a.get E2 with
  | none => rfl
  | some x =>
    cases b.get E2 with
    | none => cases x <;> rfl
    | some y =>
      cases x <;> cases y <;> try rfl
      rename_i c1 _ _ c2 _ _
      simp only
      by_cases h1 : c1 = c
      · by_cases h2 : c2 = c
        · simp only [h1, h2, and_self, if_true, true_and]
          rw [← run_resC (g := ())]
          unfold run
          rw [wp_bind, wp_nox]
          congr; funext d E3
          cases asB d <;> rfl
        · simp [h1, h2, wp]
      · simp [h1, wp]
theorem eqK_s {g : Tg (fn, QD)} {n1 n2 : List Str} {d1 d2 : List D} : eqK c fn a b QD g E (some (.ins c n1 d1)) (some (.ins c n2 d2)) = calK fn [a, b] (fun d E2 => run (fun k E3 => QD (.bl k) E3) () (R.some (asB d) E2)) () E (lend E 0 [a, b]) := by
  unfold eqK; simp
end
theorem cut_nat {α : Type} {xs : List α} {n : Nat} : cutL xs none (some (n : Int)) = xs.take n := cut_hi (by omega)
theorem take_map' {α β : Type} {f : α → β} {xs : List α} {n : Nat} : (xs.map f).take n = (xs.take n).map f := List.map_take.symm
theorem drop_map' {α β : Type} {f : α → β} {xs : List α} {n : Nat} : (xs.map f).drop n = (xs.drop n).map f := List.map_drop.symm
theorem set_map' {α β : Type} {f : α → β} {xs : List α} {n : Nat} {x : α} {y : β} (h : f x = y) : (xs.map f).set n y = (xs.set n x).map f := by rw [← h, List.map_set]
theorem rep_flat {α : Type} {n : Nat} {x : α} : (List.replicate n [x]).flatten = List.replicate n x := by
  induction n with
  | zero => rfl
  | succ n ih => rw [List.replicate_succ, List.flatten_cons, ih]; rfl
theorem lD0 {l : L3} : oIx (lD l) (.int 0) = some (.int l.1) := rfl
theorem lD1 {l : L3} : oIx (lD l) (.int 1) = some (.int l.2.1) := rfl
theorem lD2 {l : L3} : oIx (lD l) (.int 2) = some (.int l.2.2) := rfl
theorem oD_n : oD none = .non := rfl
theorem oD_s {i : Int} : oD (some i) = .int i := rfl
theorem x_bTup3 {bs : List Bd} {l : L3} {E : Nv} : bTup bs (lD l) E = bAll bs [.int l.1, .int l.2.1, .int l.2.2] E := rfl
theorem itR_int {j : Int} (h0 : 0 ≤ j) (h : j ≤ 1000000) : itR [.int j] = some (rangeD 0 j.toNat) := by
  rw [x_itR1, if_pos]; rw [B62_def]; omega
theorem itR_nat {n : Nat} (h : n ≤ 1000000) : itR [.int (n : Int)] = some (rangeD 0 n) := by rw [itR_int (by omega) (by omega)]; rfl
theorem itR_two {i j : Int} (h0 : 0 ≤ i) (h : i ≤ 1000000) (h1 : 0 ≤ j) (h2 : j ≤ 1000000) : itR [.int i, .int j] = some (rangeD i (j - i).toNat) := by
  rw [x_itR2, if_pos]; rw [B62_def, B62_def]; omega
theorem rTL {x : D} : rIsT (some x) (some [.ty "tuple", .ty "list"]) = (tyName x).bind fun t => some (.bl (subTy t "tuple" || subTy t "list")) := by
  have h2 : (2 : Nat) ≤ sizeLine := sl16 (by omega)
  have ht : tyNames [.ty "tuple", .ty "list"] = some ["tuple", "list"] := by
    unfold tyNames tyNames tyNames
    simp only [tgs_tuple, tgs_list, if_true]
  unfold rIsT
  simp only
  cases tyName x with
  | none => rfl
  | some t => simp [ht, h2]
theorem st_nt2 : subTy "str" "tuple" = false := by decide
theorem st_nl2 : subTy "str" "list" = false := by decide
def nxK (M : Nv → Prop) (_ : Tg M) (fl : Fl) (E : Nv) : Prop := match fl with
  | .nx => M E
  | _ => False
theorem nxK_nx {M : Nv → Prop} {g : Tg M} {E : Nv} : nxK M g .nx E = M E := rfl
/-- what holds between two statements -/
theorem seq_cut {s t : Nv → R Fl} {Q : Fl → Nv → Prop} {E : Nv} (M : Nv → Prop) (h1 : run (nxK M ()) () (s E)) (h2 : ∀ E, M E → run Q () (t E)) : run Q () (fSeq s t E) := by
  rw [x_seq]
  refine wp_imp h1 fun fl E1 q => ?_
  cases fl with
  | nx => exact h2 E1 q
  | _ => exact q.elim
theorem call_byN {fn : Fn} {as : List Sl} {Q P : D → List Sl → Prop} {g : Tg Q} (h : wpN (fn as) P) (k : ∀ d bs, P d bs → Q d bs) : runN Q g (fn as) := by
  unfold runN
  cases z : fn as with
  | new d bs => rw [z] at h; exact k d bs h
  | val _ _ => rw [z] at h; exact h
  | exc _ _ _ => rw [z] at h; exact h
  | bad => rw [z] at h; exact h
end FL

namespace Law
open PySem PySem.Spec PyProof.Rows L2 FL
def topS (i : Nat) : Stmt := PySem.Challenge.pw_turnedtalk_k13_whole_knowing_spread.main.body.getD i (.Pass ⟨0, 0, 0, 0⟩)
abbrev s_is_integer : Stmt := topS 2
abbrev N_is_integer : List Str := ["thing"]
noncomputable def body_is_integer : Nv → R Fl := fRet (fAnd (fOpL oIsi (fAs [fPk 0, fV (fC (.ty "int"))])) (fNot (fOpL oIsi (fAs [fPk 0, fV (fC (.ty "bool"))]))))
noncomputable def sem_is_integer : Fn := runF 1 body_is_integer
abbrev s_is_sized : Stmt := topS 5
abbrev N_is_sized : List Str := ["thing", "low", "high"]
noncomputable def body_is_sized : Nv → R Fl := fRet (fAnd (fOpL oIsi (fAs [fPk 0, fV (fC (.ty "tuple"))])) (fChain oLe oLe (fPk 1) (fV (fOpL oLen (fAs [fPk 0]))) (fPk 2)))
noncomputable def sem_is_sized : Fn := runF 3 body_is_sized
abbrev s_known : Stmt := topS 19
abbrev N_known : List Str := ["schedule", "house", "beat", "barred", "found", "number", "one", "other", "at"]
noncomputable def body_known : Nv → R Fl := fSeq (fSetN 4 (fOp2 oRep (fV (fOpV oLstD (fAs [fV (fC .non)]))) (fV (fFld "many" (fPk 0))))) (fSeq (fSetIx 4 (fVar 1) (fVar 2)) (fSeq (fFor (iEnumF (fAs [fV (fFld "letters" (fPk 0))])) (bTup [bName 5, bTup [bName 6, bName 7, bName 8]]) (fIf (tAndF (fTest (fOp2 oNotIn (fPk 5) (fPk 3))) (tAndF (fTest (fOp2 oNotN (fV (fOp2 oIx (fPk 4) (fPk 6))) (fV (fC .non)))) (fTest (fOp2 oLe (fV (fOp2 oIx (fPk 4) (fPk 6))) (fPk 8))))) (fIf (tOrF (fTest (fOp2 oIsN (fV (fOp2 oIx (fPk 4) (fPk 7))) (fV (fC .non)))) (fTest (fOp2 oGt (fV (fOp2 oIx (fPk 4) (fPk 7))) (fV (fOp2 oAdd (fPk 8) (fV (fC (.int 1)))))))) (fSetIx 4 (fVar 7) (fOp2 oAdd (fPk 8) (fV (fC (.int 1))))) (fNx)) (fNx))) (fRet (fVar 4))))
noncomputable def sem_known : Fn := runF 9 body_known
abbrev s_Schedule___eq__ : Stmt := inClass (topS 32) 1
abbrev N_Schedule___eq__ : List Str := ["self", "thing"]
noncomputable def body_Schedule___eq__ : Nv → R Fl := fRet (fAnd (fOpL oIsi (fAs [fPk 1, fV (fC (.cls 0))])) (fAnd (fOp2 oEq (fV (fFld "many" (fPk 0))) (fV (fFld "many" (fPk 1)))) (fOp2 oEq (fV (fFld "letters" (fPk 0))) (fV (fFld "letters" (fPk 1))))))
noncomputable def sem_Schedule___eq__ : Fn := runF 2 body_Schedule___eq__
abbrev s__law_hand : Stmt := topS 34
abbrev N__law_hand : List Str := ["script", "cell"]
noncomputable def body__law_hand : Nv → R Fl := fRetN (fOpV oLstD (fAs [fV (fLc (iAnyF (fSl (fPk 0) (pNone) (pSome (fC (.int 63))))) (bName 1) (tYesF) (fOpL oInt (fAs [fPk 1])) [1]), fV (fC (.int 0)), fV (fC (.int 0)), fV (fOp2 oAdd (fV (fC (.int 1))) (fV (fOpL oLen (fAs [fV (fSl (fPk 0) (pNone) (pSome (fC (.int 63))))])))), fV (fC (.int 0))]))
noncomputable def sem__law_hand : Fn := runF 2 body__law_hand
abbrev s__law_draw : Stmt := topS 35
abbrev N__law_draw : List Str := ["hand", "many", "number", "cell", "digit"]
noncomputable def body__law_draw : Nv → R Fl := fSeq (fIf (tAndF (fTest (fOp2 oEq (fV (fOp2 oIx (fPk 0) (fV (fC (.int 2))))) (fV (fC (.int 0))))) (fTest (fOp2 oLt (fV (fOp2 oIx (fPk 0) (fV (fC (.int 1))))) (fV (fOpL oLen (fAs [fV (fOp2 oIx (fPk 0) (fV (fC (.int 0))))])))))) (fSeq (fSet 3 (fOp2 oIx (fV (fOp2 oIx (fPk 0) (fV (fC (.int 0))))) (fV (fOp2 oIx (fPk 0) (fV (fC (.int 1))))))) (fSeq (fSetIx 0 (fC (.int 1)) (fOp2 oAdd (fV (fOp2 oIx (fPk 0) (fV (fC (.int 1))))) (fV (fC (.int 1))))) (fSeq (fSetIx 0 (fC (.int 3)) (fOp2 oMod (fV (fOpL oInt (fAs [fV (fOp2 oAdd (fV (fOp2 oAdd (fV (fOp2 oMul (fV (fOp2 oIx (fPk 0) (fV (fC (.int 3))))) (fV (fC (.int 69621))))) (fV (fOp2 oMul (fPk 3) (fV (fC (.int 16))))))) (fV (fC (.int 11))))]))) (fV (fC (.int 2147483629))))) (fIf (fTest (fOp2 oGe (fPk 3) (fV (fOp2 oPow (fV (fC (.int 10))) (fV (fC (.int 18))))))) (fSetIx 0 (fC (.int 2)) (fVar 3)) (fNx))))) (fNx)) (fSeq (fIf (fTest (fOp2 oGt (fV (fOp2 oIx (fPk 0) (fV (fC (.int 2))))) (fV (fC (.int 0))))) (fSeq (fSet 4 (fOp2 oMod (fV (fOpL oInt (fAs [fV (fOp2 oIx (fPk 0) (fV (fC (.int 2))))]))) (fPk 1))) (fSeq (fSetIx 0 (fC (.int 2)) (fOp2 oDiv (fV (fOp2 oIx (fPk 0) (fV (fC (.int 2))))) (fPk 1))) (fRet (fVar 4)))) (fNx)) (fSeq (fSetIx 0 (fC (.int 4)) (fOp2 oAdd (fV (fOp2 oIx (fPk 0) (fV (fC (.int 4))))) (fV (fC (.int 1))))) (fSeq (fSet 2 (fOp2 oMod (fV (fOpL oInt (fAs [fV (fOp2 oMul (fV (fOpL oInt (fAs [fV (fOp2 oAdd (fV (fOp2 oIx (fPk 0) (fV (fC (.int 3))))) (fV (fOp2 oMul (fV (fC (.int 7919))) (fV (fOp2 oIx (fPk 0) (fV (fC (.int 4))))))))]))) (fV (fC (.int 48271))))]))) (fV (fC (.int 2147483647))))) (fSeq (fSet 2 (fOp2 oMod (fV (fOpL oInt (fAs [fV (fOp2 oMul (fPk 2) (fV (fOp2 oAdd (fV (fOp2 oDiv (fPk 2) (fV (fC (.int 1009))))) (fV (fC (.int 69621))))))]))) (fV (fC (.int 2147483647))))) (fSeq (fSet 2 (fOp2 oMod (fV (fOpL oInt (fAs [fV (fOp2 oMul (fPk 2) (fV (fOp2 oAdd (fV (fOp2 oDiv (fPk 2) (fV (fC (.int 2003))))) (fV (fC (.int 40692))))))]))) (fV (fC (.int 2147483399))))) (fRet (fOp2 oMod (fV (fOpL oInt (fAs [fV (fOp2 oDiv (fPk 2) (fV (fC (.int 16))))]))) (fPk 1))))))))
noncomputable def sem__law_draw : Fn := runF 5 body__law_draw
abbrev s__law_is : Stmt := topS 37
abbrev N__law_is : List Str := ["told", "due", "one", "two"]
noncomputable def body__law_is (self : Fn) : Nv → R Fl := fSeq (fIf (fTest (fIsiT (fPk 1) (fAs [fV (fC (.ty "tuple")), fV (fC (.ty "list"))]))) (fSeq (fIf (tOrF (fTest (fOp2 oNe (fV (fOpL oIsi (fAs [fPk 0, fV (fC (.ty "tuple"))]))) (fV (fOpL oIsi (fAs [fPk 1, fV (fC (.ty "tuple"))]))))) (tNotF (fTest (fIsiT (fPk 0) (fAs [fV (fC (.ty "tuple")), fV (fC (.ty "list"))]))))) (fRet (fC (.bl false))) (fNx)) (fRet (fAnd (fOp2 oEq (fV (fOpL oLen (fAs [fPk 0]))) (fV (fOpL oLen (fAs [fPk 1])))) (fOpL oAll (fAs [fV (fLc (iZip (fAs [fV (fVar 0), fV (fVar 1)])) (bTup [bName 2, bName 3]) (tYesF) (fCall self (fAs [fV (fVar 2), fV (fVar 3)])) [2, 3])]))))) (fNx)) (fRet (fAnd (fOp2 oEq (fV (fOpL oIsi (fAs [fPk 0, fV (fC (.ty "bool"))]))) (fV (fOpL oIsi (fAs [fPk 1, fV (fC (.ty "bool"))])))) (fOp2 oEq (fPk 0) (fPk 1))))
noncomputable def sem__law_is : Nat → Fn
  | 0 => fn0
  | n + 1 => runF 4 (body__law_is (sem__law_is n))
abbrev s__law_spread : Stmt := topS 39
abbrev N__law_spread : List Str := ["letters", "many", "house", "beat", "barred", "found", "number", "one", "other", "when"]
noncomputable def body__law_spread : Nv → R Fl := fSeq (fSetN 5 (fOp2 oRep (fV (fOpV oLstD (fAs [fV (fC .non)]))) (fPk 1))) (fSeq (fSetIx 5 (fVar 2) (fVar 3)) (fSeq (fFor (iRng (fAs [fV (fOpL oLen (fAs [fPk 0]))])) (bName 6) (fSeq (fAsg (fOp2 oIx (fPk 0) (fPk 6)) (bTup [bName 7, bName 8, bName 9])) (fIf (tAndF (fTest (fOp2 oNotIn (fPk 6) (fPk 4))) (tAndF (fTest (fOp2 oNotN (fV (fOp2 oIx (fPk 5) (fPk 7))) (fV (fC .non)))) (tAndF (fTest (fOp2 oLe (fV (fOp2 oIx (fPk 5) (fPk 7))) (fPk 9))) (fTest (fOp2 oIsN (fV (fOp2 oIx (fPk 5) (fPk 8))) (fV (fC .non))))))) (fSetIx 5 (fVar 8) (fOp2 oAdd (fPk 9) (fV (fC (.int 1))))) (fNx)))) (fRet (fOpL oTuple (fAs [fPk 5])))))
noncomputable def sem__law_spread : Fn := runF 10 body__law_spread
abbrev s_is_between : Stmt := topS 3
abbrev N_is_between : List Str := ["thing", "low", "high"]
noncomputable def body_is_between : Nv → R Fl := fRet (fAnd (fCall sem_is_integer (fAs [fV (fVar 0)])) (fChain oLe oLe (fPk 1) (fPk 0) (fPk 2)))
noncomputable def sem_is_between : Fn := runF 3 body_is_between
abbrev s_is_number : Stmt := topS 4
abbrev N_is_number : List Str := ["thing"]
noncomputable def body_is_number : Nv → R Fl := fRet (fAnd (fCall sem_is_integer (fAs [fV (fVar 0)])) (fOp2 oGe (fPk 0) (fV (fC (.int 0)))))
noncomputable def sem_is_number : Fn := runF 1 body_is_number
abbrev s_soonest : Stmt := topS 23
abbrev N_soonest : List Str := ["schedule", "order", "index", "barred", "found", "one", "other"]
noncomputable def body_soonest : Nv → R Fl := fSeq (fSet 4 (fC (.int 0))) (fSeq (fFor (iZip (fAs [fV (fSl (fPk 1) (pNone) (pSome (fVar 2))), fV (fSl (fPk 1) (pSome (fC (.int 1))) (pSome (fOp2 oAdd (fPk 2) (fV (fC (.int 1))))))])) (bTup [bName 5, bName 6]) (fSeq (fSet 4 (fOp2 oIx (fV (fCall sem_known (fAs [fV (fVar 0), fV (fVar 5), fV (fVar 4), fV (fVar 3)]))) (fPk 6))) (fIf (fTest (fOp2 oIsN (fPk 4) (fV (fC .non)))) (fRet (fC .non)) (fNx)))) (fRet (fVar 4)))
noncomputable def sem_soonest : Fn := runF 7 body_soonest
abbrev s__law_some : Stmt := topS 36
abbrev N__law_some : List Str := ["hand", "things"]
noncomputable def body__law_some : Nv → R Fl := fRet (fOp2 oIx (fPk 1) (fV (fCall sem__law_draw (fAs [fPk 0, fV (fOpL oLen (fAs [fPk 1]))]))))
noncomputable def sem__law_some : Fn := runF 2 body__law_some
abbrev s__law_earliest : Stmt := topS 40
abbrev N__law_earliest : List Str := ["letters", "many", "order", "index", "barred", "beat", "k"]
noncomputable def body__law_earliest : Nv → R Fl := fSeq (fSet 5 (fC (.int 0))) (fSeq (fFor (iRng (fAs [fV (fC (.int 1)), fV (fOp2 oAdd (fPk 3) (fV (fC (.int 1))))])) (bName 6) (fSeq (fSet 5 (fOp2 oIx (fV (fCall sem__law_spread (fAs [fV (fVar 0), fV (fVar 1), fV (fOp2 oIx (fPk 2) (fV (fOp2 oSub (fPk 6) (fV (fC (.int 1)))))), fV (fVar 5), fV (fVar 4)]))) (fV (fOp2 oIx (fPk 2) (fPk 6))))) (fIf (fTest (fOp2 oIsN (fPk 5) (fV (fC .non)))) (fRet (fC .non)) (fNx)))) (fRet (fVar 5)))
noncomputable def sem__law_earliest : Fn := runF 7 body__law_earliest
abbrev s__law_barred : Stmt := topS 41
abbrev N__law_barred : List Str := ["hand", "letters", "kind", "found", "number", "share"]
noncomputable def body__law_barred : Nv → R Fl := fSeq (fSet 2 (fCall sem__law_draw (fAs [fPk 0, fV (fC (.int 6))]))) (fSeq (fSetN 3 (fOpV oLstD (fAs []))) (fSeq (fFor (iRng (fAs [fV (fOpL oLen (fAs [fPk 1]))])) (bName 4) (fSeq (fSet 5 (fOp2 oIx (fV (fOpV oLstD (fAs [fV (fC (.int 0)), fV (fC (.int 1)), fV (fC (.int 1)), fV (fC (.int 5)), fV (fC (.int 9)), fV (fC (.int 10))]))) (fPk 2))) (fIf (fTest (fOp2 oLt (fV (fCall sem__law_draw (fAs [fPk 0, fV (fC (.int 10))]))) (fPk 5))) (fDrop (fMt 3 mAppend (fAs [fV (fVar 4)]))) (fNx)))) (fRet (fOpL oTuple (fAs [fPk 3])))))
noncomputable def sem__law_barred : Fn := runF 6 body__law_barred
abbrev s_is_lot : Stmt := topS 6
abbrev N_is_lot : List Str := ["thing", "below", "one", "other"]
noncomputable def body_is_lot : Nv → R Fl := fSeq (fIf (tOrF (tNotF (fTest (fOpL oIsi (fAs [fPk 0, fV (fC (.ty "tuple"))])))) (tNotF (fTest (fOpL oAll (fAs [fV (fLc (iAnyF (fVar 0)) (bName 2) (tYesF) (fCall sem_is_between (fAs [fV (fVar 2), fV (fC (.int 0)), fV (fOp2 oSub (fPk 1) (fV (fC (.int 1))))])) [2])]))))) (fRet (fC (.bl false))) (fNx)) (fRet (fOpL oAll (fAs [fV (fLc (iZip (fAs [fV (fVar 0), fV (fSl (fPk 0) (pSome (fC (.int 1))) (pNone))])) (bTup [bName 2, bName 3]) (tYesF) (fOp2 oLt (fPk 2) (fPk 3)) [2, 3])])))
noncomputable def sem_is_lot : Fn := runF 4 body_is_lot
abbrev s_is_order : Stmt := topS 7
abbrev N_is_order : List Str := ["many", "thing", "one"]
noncomputable def body_is_order : Nv → R Fl := fRet (fAnd (fCall sem_is_sized (fAs [fV (fVar 1), fV (fC (.int 1)), fV (fC (.int 40))])) (fOpL oAll (fAs [fV (fLc (iAnyF (fVar 1)) (bName 2) (tYesF) (fCall sem_is_between (fAs [fV (fVar 2), fV (fC (.int 0)), fV (fOp2 oSub (fPk 0) (fV (fC (.int 1))))])) [2])])))
noncomputable def sem_is_order : Fn := runF 3 body_is_order
abbrev s_check_house : Stmt := topS 20
abbrev N_check_house : List Str := ["schedule", "house"]
noncomputable def body_check_house : Nv → R Fl := fIf (tNotF (fTest (fCall sem_is_between (fAs [fV (fVar 1), fV (fC (.int 0)), fV (fOp2 oSub (fV (fFld "many" (fPk 0))) (fV (fC (.int 1))))])))) (fBad) (fNx)
noncomputable def sem_check_house : Fn := runF 2 body_check_house
abbrev s_is_letter : Stmt := topS 30
abbrev N_is_letter : List Str := ["many", "thing"]
noncomputable def body_is_letter : Nv → R Fl := fSeq (fIf (tOrF (tNotF (fTest (fCall sem_is_sized (fAs [fV (fVar 1), fV (fC (.int 3)), fV (fC (.int 3))])))) (tOrF (tNotF (fTest (fCall sem_is_between (fAs [fV (fOp2 oIx (fPk 1) (fV (fC (.int 0)))), fV (fC (.int 0)), fV (fOp2 oSub (fPk 0) (fV (fC (.int 1))))])))) (tNotF (fTest (fCall sem_is_between (fAs [fV (fOp2 oIx (fPk 1) (fV (fC (.int 1)))), fV (fC (.int 0)), fV (fOp2 oSub (fPk 0) (fV (fC (.int 1))))])))))) (fRet (fC (.bl false))) (fNx)) (fRet (fAnd (fOp2 oNe (fV (fOp2 oIx (fPk 1) (fV (fC (.int 0))))) (fV (fOp2 oIx (fPk 1) (fV (fC (.int 1)))))) (fCall sem_is_between (fAs [fV (fOp2 oIx (fPk 1) (fV (fC (.int 2)))), fV (fC (.int 0)), fV (fC (.int 999))]))))
noncomputable def sem_is_letter : Fn := runF 2 body_is_letter
abbrev s__law_letters : Stmt := topS 38
abbrev N__law_letters : List Str := ["hand", "many", "most", "found", "beat", "near", "quick", "tilt", "here", "turn", "one", "other"]
noncomputable def body__law_letters : Nv → R Fl := fSeq (fSetN 3 (fOpV oLstD (fAs []))) (fSeq (fSet 4 (fCall sem__law_some (fAs [fPk 0, fV (fOpV oLstD (fAs [fV (fC (.int 0)), fV (fC (.int 0)), fV (fC (.int 0)), fV (fC (.int 3)), fV (fC (.int 800)), fV (fC (.int 990))]))]))) (fSeq (fSet 5 (fCall sem__law_some (fAs [fPk 0, fV (fOpV oLstD (fAs [fV (fC (.int 0)), fV (fC (.int 1)), fV (fC (.int 3)), fV (fC (.int 30))]))]))) (fSeq (fSet 6 (fCall sem__law_some (fAs [fPk 0, fV (fOpV oLstD (fAs [fV (fC (.int 1)), fV (fC (.int 2)), fV (fC (.int 2)), fV (fC (.int 4))]))]))) (fSeq (fSet 7 (fCall sem__law_some (fAs [fPk 0, fV (fOpV oLstD (fAs [fV (fC (.int 0)), fV (fC (.int 0)), fV (fC (.int 0)), fV (fC (.int 3)), fV (fC (.int 4))]))]))) (fSeq (fSet 8 (fCall sem__law_draw (fAs [fPk 0, fV (fVar 1)]))) (fSeq (fFor (iRng (fAs [fV (fVar 2)])) (bName 9) (fSeq (fIf (fTest (fOp2 oGt (fV (fCall sem__law_draw (fAs [fPk 0, fV (fC (.int 3))]))) (fV (fC (.int 0))))) (fSet 4 (fOpL oMin2 (fAs [fV (fC (.int 999)), fV (fOp2 oAdd (fPk 4) (fV (fCall sem__law_draw (fAs [fPk 0, fV (fOp2 oAdd (fPk 6) (fV (fC (.int 1))))]))))]))) (fNx)) (fSeq (fSet 10 (fIf (fTest (fOp2 oGt (fV (fCall sem__law_draw (fAs [fPk 0, fV (fOp2 oAdd (fPk 5) (fV (fC (.int 1))))]))) (fV (fC (.int 0))))) (fVar 8) (fCall sem__law_draw (fAs [fPk 0, fV (fVar 1)])))) (fSeq (fSet 11 (fOp2 oMod (fV (fOpL oInt (fAs [fV (fOp2 oAdd (fV (fOp2 oAdd (fPk 10) (fV (fC (.int 1))))) (fV (fCall sem__law_draw (fAs [fPk 0, fV (fOp2 oSub (fPk 1) (fV (fC (.int 1))))]))))]))) (fPk 1))) (fSeq (fIf (fTest (fOp2 oLt (fV (fCall sem__law_draw (fAs [fPk 0, fV (fC (.int 4))]))) (fPk 7))) (fAsg (fOpV oTupD (fAs [fV (fC (.int 0)), fV (fC (.int 1))])) (bTup [bName 10, bName 11])) (fNx)) (fSeq (fSet 8 (fVar 11)) (fIf (fTest (fOp2 oNotIn (fV (fOpV oTupD (fAs [fV (fVar 10), fV (fVar 11), fV (fVar 4)]))) (fPk 3))) (fDrop (fMt 3 mAppend (fAs [fV (fOpV oTupD (fAs [fV (fVar 10), fV (fVar 11), fV (fVar 4)]))]))) (fNx)))))))) (fRet (fOpL oTuple (fAs [fPk 3])))))))))
noncomputable def sem__law_letters : Fn := runF 12 body__law_letters
abbrev s__law_beat : Stmt := topS 42
abbrev N__law_beat : List Str := ["hand", "letters", "beats", "beat", "one", "other", "when"]
noncomputable def body__law_beat : Nv → R Fl := fSeq (fSet 2 (fOp2 oAdd (fV (fLc (iAnyF (fVar 1)) (bTup [bName 4, bName 5, bName 6]) (tYesF) (fVar 6) [4, 5, 6])) (fV (fOpV oLstD (fAs [fV (fC (.int 0))]))))) (fSeq (fSet 3 (fCall sem__law_some (fAs [fPk 0, fV (fVar 2)]))) (fRet (fCall sem__law_some (fAs [fPk 0, fV (fOpV oLstD (fAs [fV (fC (.int 0)), fV (fVar 3), fV (fVar 3), fV (fOp2 oAdd (fPk 3) (fV (fC (.int 1)))), fV (fOpL oMax2 (fAs [fV (fC (.int 0)), fV (fOp2 oSub (fPk 3) (fV (fC (.int 1))))])), fV (fC (.int 1000)), fV (fOp2 oSub (fV (fOp2 oPow (fV (fC (.int 10))) (fV (fC (.int 20))))) (fV (fC (.int 1))))]))]))))
noncomputable def sem__law_beat : Fn := runF 7 body__law_beat
abbrev s_check_order : Stmt := topS 17
abbrev N_check_order : List Str := ["many", "order"]
noncomputable def body_check_order : Nv → R Fl := fIf (tNotF (fTest (fCall sem_is_order (fAs [fV (fVar 0), fV (fVar 1)])))) (fBad) (fNx)
noncomputable def sem_check_order : Fn := runF 2 body_check_order
abbrev s_check_lot : Stmt := topS 21
abbrev N_check_lot : List Str := ["schedule", "letters"]
noncomputable def body_check_lot : Nv → R Fl := fIf (tNotF (fTest (fCall sem_is_lot (fAs [fV (fVar 1), fV (fOpL oLen (fAs [fV (fFld "letters" (fPk 0))]))])))) (fBad) (fNx)
noncomputable def sem_check_lot : Fn := runF 2 body_check_lot
abbrev s_first_wrong : Stmt := topS 31
abbrev N_first_wrong : List Str := ["many", "letters", "number", "letter"]
noncomputable def body_first_wrong : Nv → R Fl := fSeq (fFor (iEnumF (fAs [fV (fVar 1)])) (bTup [bName 2, bName 3]) (fSeq (fIf (tOrF (tNotF (fTest (fCall sem_is_letter (fAs [fV (fVar 0), fV (fVar 3)])))) (fTest (fOp2 oIn (fPk 3) (fV (fSl (fPk 1) (pNone) (pSome (fVar 2))))))) (fRet (fVar 2)) (fNx)) (fIf (tAndF (fTest (fOp2 oGt (fPk 2) (fV (fC (.int 0))))) (fTest (fOp2 oLt (fV (fOp2 oIx (fPk 3) (fV (fC (.int 2))))) (fV (fOp2 oIx (fV (fOp2 oIx (fPk 1) (fV (fOp2 oSub (fPk 2) (fV (fC (.int 1))))))) (fV (fC (.int 2)))))))) (fRet (fVar 2)) (fNx)))) (fRet (fC .non))
noncomputable def sem_first_wrong : Fn := runF 4 body_first_wrong
abbrev s_spread : Stmt := topS 22
abbrev N_spread : List Str := ["schedule", "house", "beat", "barred"]
noncomputable def body_spread : Nv → R Fl := fSeq (fDrop (fCall sem_check_house (fAs [fV (fVar 0), fV (fVar 1)]))) (fSeq (fIf (tNotF (fTest (fCall sem_is_number (fAs [fV (fVar 2)])))) (fBad) (fNx)) (fSeq (fDrop (fCall sem_check_lot (fAs [fV (fVar 0), fV (fVar 3)]))) (fRet (fOpL oTuple (fAs [fV (fCall sem_known (fAs [fV (fVar 0), fV (fVar 1), fV (fVar 2), fV (fVar 3)]))])))))
noncomputable def sem_spread : Fn := runF 4 body_spread
abbrev s_earliest : Stmt := topS 24
abbrev N_earliest : List Str := ["schedule", "order", "index", "barred"]
noncomputable def body_earliest : Nv → R Fl := fSeq (fDrop (fCall sem_check_order (fAs [fV (fFld "many" (fPk 0)), fV (fVar 1)]))) (fSeq (fIf (tNotF (fTest (fCall sem_is_between (fAs [fV (fVar 2), fV (fC (.int 0)), fV (fOp2 oSub (fV (fOpL oLen (fAs [fPk 1]))) (fV (fC (.int 1))))])))) (fBad) (fNx)) (fSeq (fDrop (fCall sem_check_lot (fAs [fV (fVar 0), fV (fVar 3)]))) (fRet (fCall sem_soonest (fAs [fV (fVar 0), fV (fVar 1), fV (fVar 2), fV (fVar 3)])))))
noncomputable def sem_earliest : Fn := runF 4 body_earliest
abbrev s_Schedule___init__ : Stmt := inClass (topS 32) 0
abbrev N_Schedule___init__ : List Str := ["self", "many", "letters", "wrong"]
noncomputable def body_Schedule___init__ : Nv → R Fl := fSeq (fIf (tNotF (fTest (fCall sem_is_between (fAs [fV (fVar 1), fV (fC (.int 2)), fV (fC (.int 8))])))) (fBad) (fNx)) (fSeq (fIf (tNotF (fTest (fCall sem_is_sized (fAs [fV (fVar 2), fV (fC (.int 0)), fV (fC (.int 60))])))) (fBad) (fNx)) (fSeq (fSet 3 (fCall sem_first_wrong (fAs [fV (fVar 1), fV (fVar 2)]))) (fSeq (fIf (fTest (fOp2 oNotN (fPk 3) (fV (fC .non)))) (fBad) (fNx)) (fSeq (fSetFld 0 "many" (fVar 1)) (fSetFld 0 "letters" (fVar 2))))))
noncomputable def sem_Schedule___init__ : Fn := runF 4 body_Schedule___init__
abbrev s_law : Stmt := topS 43
abbrev N_law : List Str := ["script", "hand", "many", "letters", "schedule", "turn", "barred", "house", "beat", "due", "order", "index", "k"]
noncomputable def body_law : Nv → R Fl := fSeq (fSetN 1 (fCallN sem__law_hand (fAs [fV (fVar 0)]))) (fSeq (fSet 2 (fOp2 oAdd (fV (fC (.int 2))) (fV (fCall sem__law_draw (fAs [fPk 1, fV (fC (.int 7))]))))) (fSeq (fSet 3 (fCall sem__law_letters (fAs [fPk 1, fV (fVar 2), fV (fCall sem__law_some (fAs [fPk 1, fV (fOpV oLstD (fAs [fV (fC (.int 0)), fV (fC (.int 1)), fV (fC (.int 4)), fV (fC (.int 8)), fV (fC (.int 12)), fV (fC (.int 30)), fV (fC (.int 60))]))]))]))) (fSeq (fSet 4 (fMake 0 sem_Schedule___init__ (fAs [fV (fVar 2), fV (fVar 3)]))) (fSeq (fFor (iRng (fAs [fV (fC (.int 4))])) (bName 5) (fSeq (fSet 6 (fCall sem__law_barred (fAs [fPk 1, fV (fVar 3)]))) (fSeq (fPar 7 8 (fCall sem__law_draw (fAs [fPk 1, fV (fVar 2)])) (fCall sem__law_beat (fAs [fPk 1, fV (fVar 3)]))) (fSeq (fSet 9 (fCall sem__law_spread (fAs [fV (fVar 3), fV (fVar 2), fV (fVar 7), fV (fVar 8), fV (fVar 6)]))) (fSeq (fIf (tNotF (fTest (fCall (sem__law_is 8) (fAs [fV (fCall sem_spread (fAs [fV (fVar 4), fV (fVar 7), fV (fVar 8), fV (fVar 6)])), fV (fVar 9)])))) (fRet (fC (.bl false))) (fNx)) (fSeq (fSet 10 (fOpL oTuple (fAs [fV (fLc (iRng (fAs [fV (fCall sem__law_some (fAs [fPk 1, fV (fOpV oLstD (fAs [fV (fC (.int 1)), fV (fC (.int 2)), fV (fC (.int 3)), fV (fC (.int 5)), fV (fC (.int 9)), fV (fC (.int 40))]))]))])) (bName 12) (tYesF) (fCall sem__law_draw (fAs [fPk 1, fV (fVar 2)])) [12])]))) (fFor (iAnyF (fOpV oLstD (fAs [fV (fC (.int 0)), fV (fOp2 oSub (fV (fOpL oLen (fAs [fPk 10]))) (fV (fC (.int 1)))), fV (fCall sem__law_draw (fAs [fPk 1, fV (fOpL oLen (fAs [fPk 10]))])), fV (fCall sem__law_draw (fAs [fPk 1, fV (fOpL oLen (fAs [fPk 10]))]))]))) (bName 11) (fSeq (fSet 9 (fCall sem__law_earliest (fAs [fV (fVar 3), fV (fVar 2), fV (fVar 10), fV (fVar 11), fV (fVar 6)]))) (fIf (tNotF (fTest (fCall (sem__law_is 8) (fAs [fV (fCall sem_earliest (fAs [fV (fVar 4), fV (fVar 10), fV (fVar 11), fV (fVar 6)])), fV (fVar 9)])))) (fRet (fC (.bl false))) (fNx)))))))))) (fRet (fEqI 0 sem_Schedule___eq__ (fPk 4) (fV (fMake 0 sem_Schedule___init__ (fAs [fV (fVar 2), fV (fVar 3)])))))))))
noncomputable def sem_law : Fn := runF 13 body_law
end Law

namespace Law
open PySem PySem.Spec PyProof.Rows L2 FL
/-- where things stand -/
structure Adr where
  a_is_integer : Addr
  d_is_integer : FuncData
  a_is_between : Addr
  d_is_between : FuncData
  a_is_number : Addr
  d_is_number : FuncData
  a_is_sized : Addr
  d_is_sized : FuncData
  a_is_lot : Addr
  d_is_lot : FuncData
  a_is_order : Addr
  d_is_order : FuncData
  a_check_order : Addr
  d_check_order : FuncData
  a_known : Addr
  d_known : FuncData
  a_check_house : Addr
  d_check_house : FuncData
  a_check_lot : Addr
  d_check_lot : FuncData
  a_spread : Addr
  d_spread : FuncData
  a_soonest : Addr
  d_soonest : FuncData
  a_earliest : Addr
  d_earliest : FuncData
  a_is_letter : Addr
  d_is_letter : FuncData
  a_first_wrong : Addr
  d_first_wrong : FuncData
  a_Schedule___init__ : Addr
  d_Schedule___init__ : FuncData
  a_Schedule___eq__ : Addr
  d_Schedule___eq__ : FuncData
  a__law_hand : Addr
  d__law_hand : FuncData
  a__law_draw : Addr
  d__law_draw : FuncData
  a__law_some : Addr
  d__law_some : FuncData
  a__law_is : Addr
  d__law_is : FuncData
  a__law_letters : Addr
  d__law_letters : FuncData
  a__law_spread : Addr
  d__law_spread : FuncData
  a__law_earliest : Addr
  d__law_earliest : FuncData
  a__law_barred : Addr
  d__law_barred : FuncData
  a__law_beat : Addr
  d__law_beat : FuncData
  a_law : Addr
  d_law : FuncData
  c_TalkError : Addr
  c_BadSchedule : Addr
  c_NoOrder : Addr
  c_NoNumber : Addr
  c_NoLetters : Addr
  c_NoHouse : Addr
  c_NoIndex : Addr
  c_Schedule : Addr
def gm (K : PySem.W.Frag) (a : Adr) : Gm := ⟨K, fun c => match c with  | _ => a.c_Schedule, fun c => match c with | 1 => a.c_BadSchedule | 2 => a.c_NoOrder | 3 => a.c_NoNumber | 4 => a.c_NoLetters | 5 => a.c_NoHouse | 6 => a.c_NoIndex | _ => a.c_TalkError, fun _ => .non⟩
structure Txt (K : PySem.W.Frag) (mg : Str → Option Value) (a : Adr) : Prop where
  f_is_integer : Fun K "is_integer" "is_integer" s_is_integer a.a_is_integer a.d_is_integer
  b_is_integer : Binds K a.d_is_integer ["thing"] []
  mg_is_integer : mg "is_integer" = some (.ref a.a_is_integer)
  kp_is_integer : PySem.W.keepIn K (.ref a.a_is_integer) = true
  f_is_between : Fun K "is_between" "is_between" s_is_between a.a_is_between a.d_is_between
  b_is_between : Binds K a.d_is_between ["thing", "low", "high"] []
  mg_is_between : mg "is_between" = some (.ref a.a_is_between)
  kp_is_between : PySem.W.keepIn K (.ref a.a_is_between) = true
  f_is_number : Fun K "is_number" "is_number" s_is_number a.a_is_number a.d_is_number
  b_is_number : Binds K a.d_is_number ["thing"] []
  mg_is_number : mg "is_number" = some (.ref a.a_is_number)
  kp_is_number : PySem.W.keepIn K (.ref a.a_is_number) = true
  f_is_sized : Fun K "is_sized" "is_sized" s_is_sized a.a_is_sized a.d_is_sized
  b_is_sized : Binds K a.d_is_sized ["thing", "low", "high"] []
  mg_is_sized : mg "is_sized" = some (.ref a.a_is_sized)
  kp_is_sized : PySem.W.keepIn K (.ref a.a_is_sized) = true
  f_is_lot : Fun K "is_lot" "is_lot" s_is_lot a.a_is_lot a.d_is_lot
  b_is_lot : Binds K a.d_is_lot ["thing", "below"] []
  mg_is_lot : mg "is_lot" = some (.ref a.a_is_lot)
  kp_is_lot : PySem.W.keepIn K (.ref a.a_is_lot) = true
  f_is_order : Fun K "is_order" "is_order" s_is_order a.a_is_order a.d_is_order
  b_is_order : Binds K a.d_is_order ["many", "thing"] []
  mg_is_order : mg "is_order" = some (.ref a.a_is_order)
  kp_is_order : PySem.W.keepIn K (.ref a.a_is_order) = true
  f_check_order : Fun K "check_order" "check_order" s_check_order a.a_check_order a.d_check_order
  b_check_order : Binds K a.d_check_order ["many", "order"] []
  mg_check_order : mg "check_order" = some (.ref a.a_check_order)
  kp_check_order : PySem.W.keepIn K (.ref a.a_check_order) = true
  f_known : Fun K "known" "known" s_known a.a_known a.d_known
  b_known : Binds K a.d_known ["schedule", "house", "beat", "barred"] []
  mg_known : mg "known" = some (.ref a.a_known)
  kp_known : PySem.W.keepIn K (.ref a.a_known) = true
  f_check_house : Fun K "check_house" "check_house" s_check_house a.a_check_house a.d_check_house
  b_check_house : Binds K a.d_check_house ["schedule", "house"] []
  mg_check_house : mg "check_house" = some (.ref a.a_check_house)
  kp_check_house : PySem.W.keepIn K (.ref a.a_check_house) = true
  f_check_lot : Fun K "check_lot" "check_lot" s_check_lot a.a_check_lot a.d_check_lot
  b_check_lot : Binds K a.d_check_lot ["schedule", "letters"] []
  mg_check_lot : mg "check_lot" = some (.ref a.a_check_lot)
  kp_check_lot : PySem.W.keepIn K (.ref a.a_check_lot) = true
  f_spread : Fun K "spread" "spread" s_spread a.a_spread a.d_spread
  b_spread : Binds K a.d_spread ["schedule", "house", "beat", "barred"] []
  mg_spread : mg "spread" = some (.ref a.a_spread)
  kp_spread : PySem.W.keepIn K (.ref a.a_spread) = true
  f_soonest : Fun K "soonest" "soonest" s_soonest a.a_soonest a.d_soonest
  b_soonest : Binds K a.d_soonest ["schedule", "order", "index", "barred"] []
  mg_soonest : mg "soonest" = some (.ref a.a_soonest)
  kp_soonest : PySem.W.keepIn K (.ref a.a_soonest) = true
  f_earliest : Fun K "earliest" "earliest" s_earliest a.a_earliest a.d_earliest
  b_earliest : Binds K a.d_earliest ["schedule", "order", "index", "barred"] []
  mg_earliest : mg "earliest" = some (.ref a.a_earliest)
  kp_earliest : PySem.W.keepIn K (.ref a.a_earliest) = true
  f_is_letter : Fun K "is_letter" "is_letter" s_is_letter a.a_is_letter a.d_is_letter
  b_is_letter : Binds K a.d_is_letter ["many", "thing"] []
  mg_is_letter : mg "is_letter" = some (.ref a.a_is_letter)
  kp_is_letter : PySem.W.keepIn K (.ref a.a_is_letter) = true
  f_first_wrong : Fun K "first_wrong" "first_wrong" s_first_wrong a.a_first_wrong a.d_first_wrong
  b_first_wrong : Binds K a.d_first_wrong ["many", "letters"] []
  mg_first_wrong : mg "first_wrong" = some (.ref a.a_first_wrong)
  kp_first_wrong : PySem.W.keepIn K (.ref a.a_first_wrong) = true
  f_Schedule___init__ : Fun K "__init__" "Schedule.__init__" s_Schedule___init__ a.a_Schedule___init__ a.d_Schedule___init__
  b_Schedule___init__ : Binds K a.d_Schedule___init__ ["self", "many", "letters"] []
  kp_Schedule___init__ : PySem.W.keepIn K (.ref a.a_Schedule___init__) = true
  f_Schedule___eq__ : Fun K "__eq__" "Schedule.__eq__" s_Schedule___eq__ a.a_Schedule___eq__ a.d_Schedule___eq__
  b_Schedule___eq__ : Binds K a.d_Schedule___eq__ ["self", "thing"] []
  kp_Schedule___eq__ : PySem.W.keepIn K (.ref a.a_Schedule___eq__) = true
  f__law_hand : Fun K "_law_hand" "_law_hand" s__law_hand a.a__law_hand a.d__law_hand
  b__law_hand : Binds K a.d__law_hand ["script"] []
  mg__law_hand : mg "_law_hand" = some (.ref a.a__law_hand)
  kp__law_hand : PySem.W.keepIn K (.ref a.a__law_hand) = true
  f__law_draw : Fun K "_law_draw" "_law_draw" s__law_draw a.a__law_draw a.d__law_draw
  b__law_draw : Binds K a.d__law_draw ["hand", "many"] []
  mg__law_draw : mg "_law_draw" = some (.ref a.a__law_draw)
  kp__law_draw : PySem.W.keepIn K (.ref a.a__law_draw) = true
  f__law_some : Fun K "_law_some" "_law_some" s__law_some a.a__law_some a.d__law_some
  b__law_some : Binds K a.d__law_some ["hand", "things"] []
  mg__law_some : mg "_law_some" = some (.ref a.a__law_some)
  kp__law_some : PySem.W.keepIn K (.ref a.a__law_some) = true
  f__law_is : Fun K "_law_is" "_law_is" s__law_is a.a__law_is a.d__law_is
  b__law_is : Binds K a.d__law_is ["told", "due"] []
  mg__law_is : mg "_law_is" = some (.ref a.a__law_is)
  kp__law_is : PySem.W.keepIn K (.ref a.a__law_is) = true
  f__law_letters : Fun K "_law_letters" "_law_letters" s__law_letters a.a__law_letters a.d__law_letters
  b__law_letters : Binds K a.d__law_letters ["hand", "many", "most"] []
  mg__law_letters : mg "_law_letters" = some (.ref a.a__law_letters)
  kp__law_letters : PySem.W.keepIn K (.ref a.a__law_letters) = true
  f__law_spread : Fun K "_law_spread" "_law_spread" s__law_spread a.a__law_spread a.d__law_spread
  b__law_spread : Binds K a.d__law_spread ["letters", "many", "house", "beat", "barred"] []
  mg__law_spread : mg "_law_spread" = some (.ref a.a__law_spread)
  kp__law_spread : PySem.W.keepIn K (.ref a.a__law_spread) = true
  f__law_earliest : Fun K "_law_earliest" "_law_earliest" s__law_earliest a.a__law_earliest a.d__law_earliest
  b__law_earliest : Binds K a.d__law_earliest ["letters", "many", "order", "index", "barred"] []
  mg__law_earliest : mg "_law_earliest" = some (.ref a.a__law_earliest)
  kp__law_earliest : PySem.W.keepIn K (.ref a.a__law_earliest) = true
  f__law_barred : Fun K "_law_barred" "_law_barred" s__law_barred a.a__law_barred a.d__law_barred
  b__law_barred : Binds K a.d__law_barred ["hand", "letters"] []
  mg__law_barred : mg "_law_barred" = some (.ref a.a__law_barred)
  kp__law_barred : PySem.W.keepIn K (.ref a.a__law_barred) = true
  f__law_beat : Fun K "_law_beat" "_law_beat" s__law_beat a.a__law_beat a.d__law_beat
  b__law_beat : Binds K a.d__law_beat ["hand", "letters"] []
  mg__law_beat : mg "_law_beat" = some (.ref a.a__law_beat)
  kp__law_beat : PySem.W.keepIn K (.ref a.a__law_beat) = true
  f_law : Fun K "law" "law" s_law a.a_law a.d_law
  b_law : Binds K a.d_law ["script"] []
  mg_law : mg "law" = some (.ref a.a_law)
  kp_law : PySem.W.keepIn K (.ref a.a_law) = true
  mg_Schedule : mg "Schedule" = some (.ref a.c_Schedule)
  mk_Schedule : Mk K a.c_Schedule a.a_Schedule___init__
  eq_Schedule : PySem.W.findIn K (.ref a.c_Schedule) "__eq__" = some (some (.ref a.a_Schedule___eq__))
  eqf_Schedule : PySem.W.isFn K (.ref a.a_Schedule___eq__) = true
  cl : ∀ c, Cls K ((gm K a).cls c)
  insTy : ∀ c, InsTy (gm K a) c
  na_many : ∀ c, NoAttr K ((gm K a).cls c) "many"
  na_letters : ∀ c, NoAttr K ((gm K a).cls c) "letters"
  k_MOST_OWNERS : ∃ u, mg "MOST_OWNERS" = some u ∧ RelV (.int 40) u
  k_LEAST_HOUSES : ∃ u, mg "LEAST_HOUSES" = some u ∧ RelV (.int 2) u
  k_MOST_HOUSES : ∃ u, mg "MOST_HOUSES" = some u ∧ RelV (.int 8) u
  k_MOST_LETTERS : ∃ u, mg "MOST_LETTERS" = some u ∧ RelV (.int 60) u
  k_MOST_BEAT : ∃ u, mg "MOST_BEAT" = some u ∧ RelV (.int 999) u
  b_all : mg "all" = none
  b_bool : mg "bool" = none
  b_enumerate : mg "enumerate" = none
  b_int : mg "int" = none
  b_isinstance : mg "isinstance" = none
  b_len : mg "len" = none
  b_list : mg "list" = none
  b_max : mg "max" = none
  b_min : mg "min" = none
  b_range : mg "range" = none
  b_tuple : mg "tuple" = none
  b_zip : mg "zip" = none
section
variable {P : Program} {w : World} {K : PySem.W.Frag} {mg : Str → Option Value} {a : Adr}
theorem sc_is_integer : FnScope N_is_integer ["thing"] (defScope s_is_integer) := ⟨rfl, rfl, rfl, by decide +kernel, rfl, by decide +kernel, by decide +kernel⟩
theorem ok_is_integer (T : Txt K mg a) (base : Heap) : FnOk P w K mg base (L2.CX P w) 1 a.a_is_integer a.d_is_integer ["thing"] (spF (gm K a) 1 sem_is_integer) := by
  refine fn_ok T.f_is_integer sc_is_integer body_is_integer 1 rfl 1 rfl fun cdv A outer sh H E hr => ?_
  have tk : Takes (cxOf (L2.CX P w) P w K mg base N_is_integer "is_integer" (defScope s_is_integer) a.a_is_integer cdv A outer sh H E) (fun cls d _ H => E cls d H) := takes_of rfl rfl rfl rfl
  exact fss_one (fs_ret (fe_and (pe_and (fe_opL (opL_isi _ T.insTy) (pe_callB call_isi (by rfl) T.b_isinstance (by decide +kernel) (fa_cons (fo_pk (pv 0)) (fa_cons (fo_val (fe_c (pe_bltn (v := .ty "int") (u := .type "int") (by rfl) T.b_int (by decide +kernel) rfl) (.ty "int") (fun _ => rfl))) (fa_nil))))) (pe_one (fe_not (pe_not (fe_opL (opL_isi _ T.insTy) (pe_callB call_isi (by rfl) T.b_isinstance (by decide +kernel) (fa_cons (fo_pk (pv 0)) (fa_cons (fo_val (fe_c (pe_bltn (v := .ty "bool") (u := .type "bool") (by rfl) T.b_bool (by decide +kernel) rfl) (.ty "bool") (fun _ => rfl))) (fa_nil)))))))))))
theorem sc_is_sized : FnScope N_is_sized ["thing", "low", "high"] (defScope s_is_sized) := ⟨rfl, rfl, rfl, by decide +kernel, rfl, by decide +kernel, by decide +kernel⟩
theorem ok_is_sized (T : Txt K mg a) (base : Heap) : FnOk P w K mg base (L2.CX P w) 1 a.a_is_sized a.d_is_sized ["thing", "low", "high"] (spF (gm K a) 3 sem_is_sized) := by
  refine fn_ok T.f_is_sized sc_is_sized body_is_sized 3 rfl 3 rfl fun cdv A outer sh H E hr => ?_
  have tk : Takes (cxOf (L2.CX P w) P w K mg base N_is_sized "is_sized" (defScope s_is_sized) a.a_is_sized cdv A outer sh H E) (fun cls d _ H => E cls d H) := takes_of rfl rfl rfl rfl
  exact fss_one (fs_ret (fe_and (pe_and (fe_opL (opL_isi _ T.insTy) (pe_callB call_isi (by rfl) T.b_isinstance (by decide +kernel) (fa_cons (fo_pk (pv 0)) (fa_cons (fo_val (fe_c (pe_bltn (v := .ty "tuple") (u := .type "tuple") (by rfl) T.b_tuple (by decide +kernel) rfl) (.ty "tuple") (fun _ => rfl))) (fa_nil))))) (pe_one (fe_chain (op2_le _) (op2_le _) (pe_chain opr_le opr_le (fo_pk (pv 1)) (fo_val (fe_opL (opL_len _) (pe_callB callr_len (by rfl) T.b_len (by decide +kernel) (fa_cons (fo_pk (pv 0)) (fa_nil))))) (fo_pk (pv 2))))))))
theorem sc_known : FnScope N_known ["schedule", "house", "beat", "barred"] (defScope s_known) := ⟨rfl, rfl, rfl, by decide +kernel, rfl, by decide +kernel, by decide +kernel⟩
theorem ok_known (T : Txt K mg a) (base : Heap) : FnOk P w K mg base (L2.CX P w) 1 a.a_known a.d_known ["schedule", "house", "beat", "barred"] (spF (gm K a) 4 sem_known) := by
  refine fn_ok T.f_known sc_known body_known 4 rfl 9 rfl fun cdv A outer sh H E hr => ?_
  have tk : Takes (cxOf (L2.CX P w) P w K mg base N_known "known" (defScope s_known) a.a_known cdv A outer sh H E) (fun cls d _ H => E cls d H) := takes_of rfl rfl rfl rfl
  exact fss_cons (fs_setN (ps_set (i := 4) sc_known.nd rfl (Or.inl rfl) (fn_op2 (op2n_rep _) (pe_op op_rep (fo_val (fe_fn (fn_lst (pe_lst (fa_cons (fo_val (fe_c pe_non .non (fun _ => rfl))) (fa_nil)))))) (fo_val (fe_fld rfl T.cl (T.na_many) (pe_fld (fo_pk (pv 0)) rfl))))))) (fss_cons (fs_setIx (ps_asg (fe_var (pv 2)) (pg_sub (fo_pk (pv 4)) (fe_var (pv 1)) set_list))) (fss_cons (fs_for (ps_for (passes_of rfl) rfl (fi_enum rfl (pi_enumA (by rfl) T.b_enumerate (fa_cons (fo_val (fe_fld rfl T.cl (T.na_letters) (pe_fld (fo_pk (pv 0)) rfl))) (fa_nil)))) (fg_tup rfl (fgs_cons (fg_name (pg_name (i := 5) sc_known.nd rfl (Or.inl rfl))) (fgs_cons (fg_tup rfl (fgs_cons (fg_name (pg_name (i := 6) sc_known.nd rfl (Or.inl rfl))) (fgs_cons (fg_name (pg_name (i := 7) sc_known.nd rfl (Or.inl rfl))) (fgs_cons (fg_name (pg_name (i := 8) sc_known.nd rfl (Or.inl rfl))) (fgs_nil)))) rfl) (fgs_nil))) rfl) (fss_one (fs_if (PW.pt (fw_and (ft_op2 (op2_notIn _) (pt_cmpR (opr_notIn (units65 hr)) (fo_pk (pv 5)) (fo_pk (pv 3)) (by rfl))) (fw_and (ft_op2 (op2_notN _) (pt_cmpR op_notN (fo_val (fe_op2 (op2_ix _) (pe_ix ix_seq (fo_pk (pv 4)) (fo_pk (pv 6)) (fun _ _ => rfl)))) (fo_val (fe_c pe_non .non (fun _ => rfl))) (nomark _))) (fw_and1 (ft_op2 (op2_le _) (pt_cmpR opr_le (fo_val (fe_op2 (op2_ix _) (pe_ix ix_seq (fo_pk (pv 4)) (fo_pk (pv 6)) (fun _ _ => rfl)))) (fo_pk (pv 8)) (nomark _))))))) (fss_one (fs_if (PW.pt (fw_or (ft_op2 (op2_isN _) (pt_cmpR op_isN (fo_val (fe_op2 (op2_ix _) (pe_ix ix_seq (fo_pk (pv 4)) (fo_pk (pv 7)) (fun _ _ => rfl)))) (fo_val (fe_c pe_non .non (fun _ => rfl))) (nomark _))) (fw_or1 (ft_op2 (op2_gt _) (pt_cmpR opr_gt (fo_val (fe_op2 (op2_ix _) (pe_ix ix_seq (fo_pk (pv 4)) (fo_pk (pv 7)) (fun _ _ => rfl)))) (fo_val (fe_op2 (op2_add _) (pe_op opr_add (fo_pk (pv 8)) (fo_val (fe_c pe_int (.int 1) (fun _ => rfl)))))) (nomark _)))))) (fss_one (fs_setIx (ps_asg (fe_op2 (op2_add _) (pe_op opr_add (fo_pk (pv 8)) (fo_val (fe_c pe_int (.int 1) (fun _ => rfl))))) (pg_sub (fo_pk (pv 4)) (fe_var (pv 7)) set_list)))) (fss_nil))) (fss_nil))))) (fss_one (fs_ret (fe_var (pv 4))))))
theorem sc_Schedule___eq__ : FnScope N_Schedule___eq__ ["self", "thing"] (defScope s_Schedule___eq__) := ⟨rfl, rfl, rfl, by decide +kernel, rfl, by decide +kernel, by decide +kernel⟩
theorem ok_Schedule___eq__ (T : Txt K mg a) (base : Heap) : FnOk P w K mg base (L2.CX P w) 1 a.a_Schedule___eq__ a.d_Schedule___eq__ ["self", "thing"] (spF (gm K a) 2 sem_Schedule___eq__) := by
  refine fn_ok T.f_Schedule___eq__ sc_Schedule___eq__ body_Schedule___eq__ 2 rfl 2 rfl fun cdv A outer sh H E hr => ?_
  have tk : Takes (cxOf (L2.CX P w) P w K mg base N_Schedule___eq__ "Schedule.__eq__" (defScope s_Schedule___eq__) a.a_Schedule___eq__ cdv A outer sh H E) (fun cls d _ H => E cls d H) := takes_of rfl rfl rfl rfl
  exact fss_one (fs_ret (fe_and (pe_and (fe_opL (opL_isi _ T.insTy) (pe_callB call_isi (by rfl) T.b_isinstance (by decide +kernel) (fa_cons (fo_pk (pv 1)) (fa_cons (fo_val (fe_c (pe_glob (v := .ref a.c_Schedule) (by rfl) T.mg_Schedule rfl) (.cls 0) (fun _ => rfl))) (fa_nil))))) (fe_and (pe_and (fe_op2 (op2_eq _) (pe_cmpR (op_eqD hr.units) (fo_val (fe_fld rfl T.cl (T.na_many) (pe_fld (fo_pk (pv 0)) rfl))) (fo_val (fe_fld rfl T.cl (T.na_many) (pe_fld (fo_pk (pv 1)) rfl))) (nomark _))) (pe_one (fe_op2 (op2_eq _) (pe_cmpR (op_eqD hr.units) (fo_val (fe_fld rfl T.cl (T.na_letters) (pe_fld (fo_pk (pv 0)) rfl))) (fo_val (fe_fld rfl T.cl (T.na_letters) (pe_fld (fo_pk (pv 1)) rfl))) (nomark _)))))))))
theorem sc__law_hand : FnScope N__law_hand ["script"] (defScope s__law_hand) := ⟨rfl, rfl, rfl, by decide +kernel, rfl, by decide +kernel, by decide +kernel⟩
theorem ok__law_hand (T : Txt K mg a) (base : Heap) : FnOk P w K mg base (L2.CX P w) 1 a.a__law_hand a.d__law_hand ["script"] (spF (gm K a) 1 sem__law_hand) := by
  refine fn_ok T.f__law_hand sc__law_hand body__law_hand 1 rfl 2 rfl fun cdv A outer sh H E hr => ?_
  have tk : Takes (cxOf (L2.CX P w) P w K mg base N__law_hand "_law_hand" (defScope s__law_hand) a.a__law_hand cdv A outer sh H E) (fun cls d _ H => E cls d H) := takes_of rfl rfl rfl rfl
  exact fss_one (fs_retN (fn_lst (pe_lst (fa_cons (fo_val (fe_fn (fn_lc (pe_lc (own := [("cell", 1)]) rfl sc__law_hand.nd (fi_any rfl (pi_any (fe_sl rfl (pe_slice slr_all (fo_pk (pv 0)) (fp_none) (fp_some (fe_c pe_int (.int 63) (fun _ => rfl))))))) (blkOk_by (N := N__law_hand) (sc := defScope s__law_hand) (by decide +kernel)) (fun _ _ _ _ _ => fgv_name (by decide) (pg_name (i := 1) sc__law_hand.nd rfl (Or.inl rfl))) (fun _ _ _ _ _ => fts_nil) (fun _ _ _ _ _ => fe_opL (opL_int _) (pe_callTy call_int1 (by rfl) T.b_int (by decide +kernel) (fa_cons (fo_pk (pv 1)) (fa_nil)))))))) (fa_cons (fo_val (fe_c pe_int (.int 0) (fun _ => rfl))) (fa_cons (fo_val (fe_c pe_int (.int 0) (fun _ => rfl))) (fa_cons (fo_val (fe_op2 (op2_add _) (pe_op opr_add (fo_val (fe_c pe_int (.int 1) (fun _ => rfl))) (fo_val (fe_opL (opL_len _) (pe_callB callr_len (by rfl) T.b_len (by decide +kernel) (fa_cons (fo_val (fe_sl rfl (pe_slice slr_all (fo_pk (pv 0)) (fp_none) (fp_some (fe_c pe_int (.int 63) (fun _ => rfl)))))) (fa_nil)))))))) (fa_cons (fo_val (fe_c pe_int (.int 0) (fun _ => rfl))) (fa_nil)))))))))
theorem sc__law_draw : FnScope N__law_draw ["hand", "many"] (defScope s__law_draw) := ⟨rfl, rfl, rfl, by decide +kernel, rfl, by decide +kernel, by decide +kernel⟩
theorem ok__law_draw (T : Txt K mg a) (base : Heap) : FnOk P w K mg base (L2.CX P w) 1 a.a__law_draw a.d__law_draw ["hand", "many"] (spF (gm K a) 2 sem__law_draw) := by
  refine fn_ok T.f__law_draw sc__law_draw body__law_draw 2 rfl 5 rfl fun cdv A outer sh H E hr => ?_
  have tk : Takes (cxOf (L2.CX P w) P w K mg base N__law_draw "_law_draw" (defScope s__law_draw) a.a__law_draw cdv A outer sh H E) (fun cls d _ H => E cls d H) := takes_of rfl rfl rfl rfl
  exact fss_cons (fs_if (PW.pt (fw_and (ft_op2 (op2_eq _) (pt_cmpR (op_eqD hr.units) (fo_val (fe_op2 (op2_ix _) (pe_ix ix_seq (fo_pk (pv 0)) (fo_val (fe_c pe_int (.int 2) (fun _ => rfl))) (fun _ _ => rfl)))) (fo_val (fe_c pe_int (.int 0) (fun _ => rfl))) (nomark _))) (fw_and1 (ft_op2 (op2_lt _) (pt_cmpR opr_lt (fo_val (fe_op2 (op2_ix _) (pe_ix ix_seq (fo_pk (pv 0)) (fo_val (fe_c pe_int (.int 1) (fun _ => rfl))) (fun _ _ => rfl)))) (fo_val (fe_opL (opL_len _) (pe_callB callr_len (by rfl) T.b_len (by decide +kernel) (fa_cons (fo_val (fe_op2 (op2_ix _) (pe_ix ix_seq (fo_pk (pv 0)) (fo_val (fe_c pe_int (.int 0) (fun _ => rfl))) (fun _ _ => rfl)))) (fa_nil))))) (nomark _)))))) (fss_cons (fs_set (ps_set (i := 3) sc__law_draw.nd rfl (Or.inl rfl) (fe_op2 (op2_ix _) (pe_ix ix_seq (fo_val (fe_op2 (op2_ix _) (pe_ix ix_seq (fo_pk (pv 0)) (fo_val (fe_c pe_int (.int 0) (fun _ => rfl))) (fun _ _ => rfl)))) (fo_val (fe_op2 (op2_ix _) (pe_ix ix_seq (fo_pk (pv 0)) (fo_val (fe_c pe_int (.int 1) (fun _ => rfl))) (fun _ _ => rfl)))) (fun _ _ => rfl))))) (fss_cons (fs_setIx (ps_asg (fe_op2 (op2_add _) (pe_op opr_add (fo_val (fe_op2 (op2_ix _) (pe_ix ix_seq (fo_pk (pv 0)) (fo_val (fe_c pe_int (.int 1) (fun _ => rfl))) (fun _ _ => rfl)))) (fo_val (fe_c pe_int (.int 1) (fun _ => rfl))))) (pg_sub (fo_pk (pv 0)) (fe_c pe_int (.int 1) (fun _ => rfl)) set_list))) (fss_cons (fs_setIx (ps_asg (fe_op2 (op2_mod _) (pe_op op_mod (fo_val (fe_opL (opL_int _) (pe_callTy call_int1 (by rfl) T.b_int (by decide +kernel) (fa_cons (fo_val (fe_op2 (op2_add _) (pe_op opr_add (fo_val (fe_op2 (op2_add _) (pe_op opr_add (fo_val (fe_op2 (op2_mul _) (pe_op opr_mul (fo_val (fe_op2 (op2_ix _) (pe_ix ix_seq (fo_pk (pv 0)) (fo_val (fe_c pe_int (.int 3) (fun _ => rfl))) (fun _ _ => rfl)))) (fo_val (fe_c pe_int (.int 69621) (fun _ => rfl)))))) (fo_val (fe_op2 (op2_mul _) (pe_op opr_mul (fo_pk (pv 3)) (fo_val (fe_c pe_int (.int 16) (fun _ => rfl))))))))) (fo_val (fe_c pe_int (.int 11) (fun _ => rfl)))))) (fa_nil))))) (fo_val (fe_c pe_int (.int 2147483629) (fun _ => rfl))))) (pg_sub (fo_pk (pv 0)) (fe_c pe_int (.int 3) (fun _ => rfl)) set_list))) (fss_one (fs_if (ft_op2 (op2_ge _) (pt_cmpR opr_ge (fo_pk (pv 3)) (fo_val (fe_op2 (op2_pow _) (pe_op op_pow (fo_val (fe_c pe_int (.int 10) (fun _ => rfl))) (fo_val (fe_c pe_int (.int 18) (fun _ => rfl)))))) (nomark _))) (fss_one (fs_setIx (ps_asg (fe_var (pv 3)) (pg_sub (fo_pk (pv 0)) (fe_c pe_int (.int 2) (fun _ => rfl)) set_list)))) (fss_nil)))))) (fss_nil)) (fss_cons (fs_if (ft_op2 (op2_gt _) (pt_cmpR opr_gt (fo_val (fe_op2 (op2_ix _) (pe_ix ix_seq (fo_pk (pv 0)) (fo_val (fe_c pe_int (.int 2) (fun _ => rfl))) (fun _ _ => rfl)))) (fo_val (fe_c pe_int (.int 0) (fun _ => rfl))) (nomark _))) (fss_cons (fs_set (ps_set (i := 4) sc__law_draw.nd rfl (Or.inl rfl) (fe_op2 (op2_mod _) (pe_op op_mod (fo_val (fe_opL (opL_int _) (pe_callTy call_int1 (by rfl) T.b_int (by decide +kernel) (fa_cons (fo_val (fe_op2 (op2_ix _) (pe_ix ix_seq (fo_pk (pv 0)) (fo_val (fe_c pe_int (.int 2) (fun _ => rfl))) (fun _ _ => rfl)))) (fa_nil))))) (fo_pk (pv 1)))))) (fss_cons (fs_setIx (ps_asg (fe_op2 (op2_div _) (pe_op op_fdiv (fo_val (fe_op2 (op2_ix _) (pe_ix ix_seq (fo_pk (pv 0)) (fo_val (fe_c pe_int (.int 2) (fun _ => rfl))) (fun _ _ => rfl)))) (fo_pk (pv 1)))) (pg_sub (fo_pk (pv 0)) (fe_c pe_int (.int 2) (fun _ => rfl)) set_list))) (fss_one (fs_ret (fe_var (pv 4)))))) (fss_nil)) (fss_cons (fs_setIx (ps_asg (fe_op2 (op2_add _) (pe_op opr_add (fo_val (fe_op2 (op2_ix _) (pe_ix ix_seq (fo_pk (pv 0)) (fo_val (fe_c pe_int (.int 4) (fun _ => rfl))) (fun _ _ => rfl)))) (fo_val (fe_c pe_int (.int 1) (fun _ => rfl))))) (pg_sub (fo_pk (pv 0)) (fe_c pe_int (.int 4) (fun _ => rfl)) set_list))) (fss_cons (fs_set (ps_set (i := 2) sc__law_draw.nd rfl (Or.inl rfl) (fe_op2 (op2_mod _) (pe_op op_mod (fo_val (fe_opL (opL_int _) (pe_callTy call_int1 (by rfl) T.b_int (by decide +kernel) (fa_cons (fo_val (fe_op2 (op2_mul _) (pe_op opr_mul (fo_val (fe_opL (opL_int _) (pe_callTy call_int1 (by rfl) T.b_int (by decide +kernel) (fa_cons (fo_val (fe_op2 (op2_add _) (pe_op opr_add (fo_val (fe_op2 (op2_ix _) (pe_ix ix_seq (fo_pk (pv 0)) (fo_val (fe_c pe_int (.int 3) (fun _ => rfl))) (fun _ _ => rfl)))) (fo_val (fe_op2 (op2_mul _) (pe_op opr_mul (fo_val (fe_c pe_int (.int 7919) (fun _ => rfl))) (fo_val (fe_op2 (op2_ix _) (pe_ix ix_seq (fo_pk (pv 0)) (fo_val (fe_c pe_int (.int 4) (fun _ => rfl))) (fun _ _ => rfl)))))))))) (fa_nil))))) (fo_val (fe_c pe_int (.int 48271) (fun _ => rfl)))))) (fa_nil))))) (fo_val (fe_c pe_int (.int 2147483647) (fun _ => rfl))))))) (fss_cons (fs_set (ps_set (i := 2) sc__law_draw.nd rfl (Or.inl rfl) (fe_op2 (op2_mod _) (pe_op op_mod (fo_val (fe_opL (opL_int _) (pe_callTy call_int1 (by rfl) T.b_int (by decide +kernel) (fa_cons (fo_val (fe_op2 (op2_mul _) (pe_op opr_mul (fo_pk (pv 2)) (fo_val (fe_op2 (op2_add _) (pe_op opr_add (fo_val (fe_op2 (op2_div _) (pe_op op_fdiv (fo_pk (pv 2)) (fo_val (fe_c pe_int (.int 1009) (fun _ => rfl)))))) (fo_val (fe_c pe_int (.int 69621) (fun _ => rfl))))))))) (fa_nil))))) (fo_val (fe_c pe_int (.int 2147483647) (fun _ => rfl))))))) (fss_cons (fs_set (ps_set (i := 2) sc__law_draw.nd rfl (Or.inl rfl) (fe_op2 (op2_mod _) (pe_op op_mod (fo_val (fe_opL (opL_int _) (pe_callTy call_int1 (by rfl) T.b_int (by decide +kernel) (fa_cons (fo_val (fe_op2 (op2_mul _) (pe_op opr_mul (fo_pk (pv 2)) (fo_val (fe_op2 (op2_add _) (pe_op opr_add (fo_val (fe_op2 (op2_div _) (pe_op op_fdiv (fo_pk (pv 2)) (fo_val (fe_c pe_int (.int 2003) (fun _ => rfl)))))) (fo_val (fe_c pe_int (.int 40692) (fun _ => rfl))))))))) (fa_nil))))) (fo_val (fe_c pe_int (.int 2147483399) (fun _ => rfl))))))) (fss_one (fs_ret (fe_op2 (op2_mod _) (pe_op op_mod (fo_val (fe_opL (opL_int _) (pe_callTy call_int1 (by rfl) T.b_int (by decide +kernel) (fa_cons (fo_val (fe_op2 (op2_div _) (pe_op op_fdiv (fo_pk (pv 2)) (fo_val (fe_c pe_int (.int 16) (fun _ => rfl)))))) (fa_nil))))) (fo_pk (pv 1)))))))))))
theorem sc__law_is : FnScope N__law_is ["told", "due"] (defScope s__law_is) := ⟨rfl, rfl, rfl, by decide +kernel, rfl, by decide +kernel, by decide +kernel⟩
theorem okS__law_is (T : Txt K mg a) (base : Heap) (m : Nat) (ih : FnOk P w K mg base (L2.CX P w) (1 + m) a.a__law_is a.d__law_is ["told", "due"] (spF (gm K a) 2 (sem__law_is m))) : FnOk P w K mg base (L2.CX P w) (1 + m + 1) a.a__law_is a.d__law_is ["told", "due"] (spF (gm K a) 2 (sem__law_is (m + 1))) := by
  refine fn_ok (k := 1 + m) T.f__law_is sc__law_is (body__law_is (sem__law_is m)) 2 rfl 4 rfl fun cdv A outer sh H E hr => ?_
  have tk : Takes (cxOf (L2.CX P w) P w K mg base N__law_is "_law_is" (defScope s__law_is) a.a__law_is cdv A outer sh H E) (fun cls d _ H => E cls d H) := takes_of rfl rfl rfl rfl
  exact fss_cons (fs_if (ft_val (pt_val (fe_isiT rfl (pe_callB call_isiT (by rfl) T.b_isinstance (by decide +kernel) (pa_cons (fo_pk (pv 1)) (pa_cons (pe_tup (fa_cons (fo_val (fe_c (pe_bltn (v := .ty "tuple") (u := .type "tuple") (by rfl) T.b_tuple (by decide +kernel) rfl) (.ty "tuple") (fun _ => rfl))) (fa_cons (fo_val (fe_c (pe_bltn (v := .ty "list") (u := .type "list") (by rfl) T.b_list (by decide +kernel) rfl) (.ty "list") (fun _ => rfl))) (fa_nil)))) pa_nil)))))) (fss_cons (fs_if (PW.pt (fw_or (ft_op2 (op2_ne _) (pt_cmpR (op_neD hr.units) (fo_val (fe_opL (opL_isi _ T.insTy) (pe_callB call_isi (by rfl) T.b_isinstance (by decide +kernel) (fa_cons (fo_pk (pv 0)) (fa_cons (fo_val (fe_c (pe_bltn (v := .ty "tuple") (u := .type "tuple") (by rfl) T.b_tuple (by decide +kernel) rfl) (.ty "tuple") (fun _ => rfl))) (fa_nil)))))) (fo_val (fe_opL (opL_isi _ T.insTy) (pe_callB call_isi (by rfl) T.b_isinstance (by decide +kernel) (fa_cons (fo_pk (pv 1)) (fa_cons (fo_val (fe_c (pe_bltn (v := .ty "tuple") (u := .type "tuple") (by rfl) T.b_tuple (by decide +kernel) rfl) (.ty "tuple") (fun _ => rfl))) (fa_nil)))))) (nomark _))) (fw_or1 (ft_not (ft_val (pt_val (fe_isiT rfl (pe_callB call_isiT (by rfl) T.b_isinstance (by decide +kernel) (pa_cons (fo_pk (pv 0)) (pa_cons (pe_tup (fa_cons (fo_val (fe_c (pe_bltn (v := .ty "tuple") (u := .type "tuple") (by rfl) T.b_tuple (by decide +kernel) rfl) (.ty "tuple") (fun _ => rfl))) (fa_cons (fo_val (fe_c (pe_bltn (v := .ty "list") (u := .type "list") (by rfl) T.b_list (by decide +kernel) rfl) (.ty "list") (fun _ => rfl))) (fa_nil)))) pa_nil)))))))))) (fss_one (fs_ret (fe_c pe_bl (.bl false) (fun _ => rfl)))) (fss_nil)) (fss_one (fs_ret (fe_and (pe_and (fe_op2 (op2_eq _) (pe_cmpR (op_eqD hr.units) (fo_val (fe_opL (opL_len _) (pe_callB callr_len (by rfl) T.b_len (by decide +kernel) (fa_cons (fo_pk (pv 0)) (fa_nil))))) (fo_val (fe_opL (opL_len _) (pe_callB callr_len (by rfl) T.b_len (by decide +kernel) (fa_cons (fo_pk (pv 1)) (fa_nil))))) (nomark _))) (pe_one (fe_opL (opL_all _) (pe_callB (cr_all rfl) (by rfl) T.b_all (by decide +kernel) (fa_cons (fo_val (fe_fn (fn_lc (pe_lc (own := [("one", 2), ("two", 3)]) rfl sc__law_is.nd (fi_zip rfl (RZ.pi_zipA (by rfl) T.b_zip (fa_cons (fo_val (fe_var (pv 0))) (fa_cons (fo_val (fe_var (pv 1))) (fa_nil))))) (blkOk_by (N := N__law_is) (sc := defScope s__law_is) (by decide +kernel)) (fun _ _ _ _ _ => fgv_tup rfl (fgvs_cons (fgv_name (by decide) (pg_name (i := 2) sc__law_is.nd rfl (Or.inl rfl))) (fgvs_cons (fgv_name (by decide) (pg_name (i := 3) sc__law_is.nd rfl (Or.inl rfl))) (fgvs_nil))) rfl) (fun _ _ _ _ _ => fts_nil) (fun _ _ _ _ _ => fe_call (pe_callS ih (hr.mono (by omega)) (by rfl) T.mg__law_is T.kp__law_is T.b__law_is (fun σ => passAt takes0 σ) (fa_cons (fo_val (fe_var (pv 2))) (fa_cons (fo_val (fe_var (pv 3))) (fa_nil)))) rfl))))) (fa_nil)))))))))) (fss_nil)) (fss_one (fs_ret (fe_and (pe_and (fe_op2 (op2_eq _) (pe_cmpR (op_eqD hr.units) (fo_val (fe_opL (opL_isi _ T.insTy) (pe_callB call_isi (by rfl) T.b_isinstance (by decide +kernel) (fa_cons (fo_pk (pv 0)) (fa_cons (fo_val (fe_c (pe_bltn (v := .ty "bool") (u := .type "bool") (by rfl) T.b_bool (by decide +kernel) rfl) (.ty "bool") (fun _ => rfl))) (fa_nil)))))) (fo_val (fe_opL (opL_isi _ T.insTy) (pe_callB call_isi (by rfl) T.b_isinstance (by decide +kernel) (fa_cons (fo_pk (pv 1)) (fa_cons (fo_val (fe_c (pe_bltn (v := .ty "bool") (u := .type "bool") (by rfl) T.b_bool (by decide +kernel) rfl) (.ty "bool") (fun _ => rfl))) (fa_nil)))))) (nomark _))) (pe_one (fe_op2 (op2_eq _) (pe_cmpR (op_eqD hr.units) (fo_pk (pv 0)) (fo_pk (pv 1)) (nomark _))))))))
theorem ok__law_is (T : Txt K mg a) (base : Heap) : ∀ n, FnOk P w K mg base (L2.CX P w) (1 + n) a.a__law_is a.d__law_is ["told", "due"] (spF (gm K a) 2 (sem__law_is n))
  | 0 => fn0_ok 2 rfl
  | m + 1 => okS__law_is T base m (ok__law_is T base m)
theorem sc__law_spread : FnScope N__law_spread ["letters", "many", "house", "beat", "barred"] (defScope s__law_spread) := ⟨rfl, rfl, rfl, by decide +kernel, rfl, by decide +kernel, by decide +kernel⟩
theorem ok__law_spread (T : Txt K mg a) (base : Heap) : FnOk P w K mg base (L2.CX P w) 1 a.a__law_spread a.d__law_spread ["letters", "many", "house", "beat", "barred"] (spF (gm K a) 5 sem__law_spread) := by
  refine fn_ok T.f__law_spread sc__law_spread body__law_spread 5 rfl 10 rfl fun cdv A outer sh H E hr => ?_
  have tk : Takes (cxOf (L2.CX P w) P w K mg base N__law_spread "_law_spread" (defScope s__law_spread) a.a__law_spread cdv A outer sh H E) (fun cls d _ H => E cls d H) := takes_of rfl rfl rfl rfl
  exact fss_cons (fs_setN (ps_set (i := 5) sc__law_spread.nd rfl (Or.inl rfl) (fn_op2 (op2n_rep _) (pe_op op_rep (fo_val (fe_fn (fn_lst (pe_lst (fa_cons (fo_val (fe_c pe_non .non (fun _ => rfl))) (fa_nil)))))) (fo_pk (pv 1)))))) (fss_cons (fs_setIx (ps_asg (fe_var (pv 3)) (pg_sub (fo_pk (pv 5)) (fe_var (pv 2)) set_list))) (fss_cons (fs_for (ps_for (passes_of rfl) rfl (fi_range1 (pi_range1 (by rfl) T.b_range (fa_cons (fo_val (fe_opL (opL_len _) (pe_callB callr_len (by rfl) T.b_len (by decide +kernel) (fa_cons (fo_pk (pv 0)) (fa_nil))))) (fa_nil)))) (fg_name (pg_name (i := 6) sc__law_spread.nd rfl (Or.inl rfl))) (fss_cons (fs_asg (ps_asg (fe_op2 (op2_ix _) (pe_ix ix_seq (fo_pk (pv 0)) (fo_pk (pv 6)) (fun _ _ => rfl))) (fg_tup rfl (fgs_cons (fg_name (pg_name (i := 7) sc__law_spread.nd rfl (Or.inl rfl))) (fgs_cons (fg_name (pg_name (i := 8) sc__law_spread.nd rfl (Or.inl rfl))) (fgs_cons (fg_name (pg_name (i := 9) sc__law_spread.nd rfl (Or.inl rfl))) (fgs_nil)))) rfl))) (fss_one (fs_if (PW.pt (fw_and (ft_op2 (op2_notIn _) (pt_cmpR (opr_notIn (units65 hr)) (fo_pk (pv 6)) (fo_pk (pv 4)) (by rfl))) (fw_and (ft_op2 (op2_notN _) (pt_cmpR op_notN (fo_val (fe_op2 (op2_ix _) (pe_ix ix_seq (fo_pk (pv 5)) (fo_pk (pv 7)) (fun _ _ => rfl)))) (fo_val (fe_c pe_non .non (fun _ => rfl))) (nomark _))) (fw_and (ft_op2 (op2_le _) (pt_cmpR opr_le (fo_val (fe_op2 (op2_ix _) (pe_ix ix_seq (fo_pk (pv 5)) (fo_pk (pv 7)) (fun _ _ => rfl)))) (fo_pk (pv 9)) (nomark _))) (fw_and1 (ft_op2 (op2_isN _) (pt_cmpR op_isN (fo_val (fe_op2 (op2_ix _) (pe_ix ix_seq (fo_pk (pv 5)) (fo_pk (pv 8)) (fun _ _ => rfl)))) (fo_val (fe_c pe_non .non (fun _ => rfl))) (nomark _)))))))) (fss_one (fs_setIx (ps_asg (fe_op2 (op2_add _) (pe_op opr_add (fo_pk (pv 9)) (fo_val (fe_c pe_int (.int 1) (fun _ => rfl))))) (pg_sub (fo_pk (pv 5)) (fe_var (pv 8)) set_list)))) (fss_nil)))))) (fss_one (fs_ret (fe_opL (opL_tuple _) (pe_callTy call_tuple_of (by rfl) T.b_tuple (by decide +kernel) (fa_cons (fo_pk (pv 5)) (fa_nil))))))))
theorem sc_is_between : FnScope N_is_between ["thing", "low", "high"] (defScope s_is_between) := ⟨rfl, rfl, rfl, by decide +kernel, rfl, by decide +kernel, by decide +kernel⟩
theorem ok_is_between (T : Txt K mg a) (base : Heap) : FnOk P w K mg base (L2.CX P w) 2 a.a_is_between a.d_is_between ["thing", "low", "high"] (spF (gm K a) 3 sem_is_between) := by
  refine fn_ok T.f_is_between sc_is_between body_is_between 3 rfl 3 rfl fun cdv A outer sh H E hr => ?_
  have tk : Takes (cxOf (L2.CX P w) P w K mg base N_is_between "is_between" (defScope s_is_between) a.a_is_between cdv A outer sh H E) (fun cls d _ H => E cls d H) := takes_of rfl rfl rfl rfl
  exact fss_one (fs_ret (fe_and (pe_and (fe_call (pe_callS (ok_is_integer T base) (hr.mono (by decide)) (by rfl) T.mg_is_integer T.kp_is_integer T.b_is_integer (fun σ => passAt tk σ) (fa_cons (fo_val (fe_var (pv 0))) (fa_nil))) rfl) (pe_one (fe_chain (op2_le _) (op2_le _) (pe_chain opr_le opr_le (fo_pk (pv 1)) (fo_pk (pv 0)) (fo_pk (pv 2))))))))
theorem sc_is_number : FnScope N_is_number ["thing"] (defScope s_is_number) := ⟨rfl, rfl, rfl, by decide +kernel, rfl, by decide +kernel, by decide +kernel⟩
theorem ok_is_number (T : Txt K mg a) (base : Heap) : FnOk P w K mg base (L2.CX P w) 2 a.a_is_number a.d_is_number ["thing"] (spF (gm K a) 1 sem_is_number) := by
  refine fn_ok T.f_is_number sc_is_number body_is_number 1 rfl 1 rfl fun cdv A outer sh H E hr => ?_
  have tk : Takes (cxOf (L2.CX P w) P w K mg base N_is_number "is_number" (defScope s_is_number) a.a_is_number cdv A outer sh H E) (fun cls d _ H => E cls d H) := takes_of rfl rfl rfl rfl
  exact fss_one (fs_ret (fe_and (pe_and (fe_call (pe_callS (ok_is_integer T base) (hr.mono (by decide)) (by rfl) T.mg_is_integer T.kp_is_integer T.b_is_integer (fun σ => passAt tk σ) (fa_cons (fo_val (fe_var (pv 0))) (fa_nil))) rfl) (pe_one (fe_op2 (op2_ge _) (pe_cmpR opr_ge (fo_pk (pv 0)) (fo_val (fe_c pe_int (.int 0) (fun _ => rfl))) (nomark _)))))))
theorem sc_soonest : FnScope N_soonest ["schedule", "order", "index", "barred"] (defScope s_soonest) := ⟨rfl, rfl, rfl, by decide +kernel, rfl, by decide +kernel, by decide +kernel⟩
theorem ok_soonest (T : Txt K mg a) (base : Heap) : FnOk P w K mg base (L2.CX P w) 2 a.a_soonest a.d_soonest ["schedule", "order", "index", "barred"] (spF (gm K a) 4 sem_soonest) := by
  refine fn_ok T.f_soonest sc_soonest body_soonest 4 rfl 7 rfl fun cdv A outer sh H E hr => ?_
  have tk : Takes (cxOf (L2.CX P w) P w K mg base N_soonest "soonest" (defScope s_soonest) a.a_soonest cdv A outer sh H E) (fun cls d _ H => E cls d H) := takes_of rfl rfl rfl rfl
  exact fss_cons (fs_set (ps_set (i := 4) sc_soonest.nd rfl (Or.inl rfl) (fe_c pe_int (.int 0) (fun _ => rfl)))) (fss_cons (fs_for (ps_for (passes_of rfl) rfl (fi_zip rfl (RZ.pi_zipA (by rfl) T.b_zip (fa_cons (fo_val (fe_sl rfl (pe_slice slr_all (fo_pk (pv 1)) (fp_none) (fp_some (fe_var (pv 2)))))) (fa_cons (fo_val (fe_sl rfl (pe_slice slr_all (fo_pk (pv 1)) (fp_some (fe_c pe_int (.int 1) (fun _ => rfl))) (fp_some (fe_op2 (op2_add _) (pe_op opr_add (fo_pk (pv 2)) (fo_val (fe_c pe_int (.int 1) (fun _ => rfl))))))))) (fa_nil))))) (fg_tup rfl (fgs_cons (fg_name (pg_name (i := 5) sc_soonest.nd rfl (Or.inl rfl))) (fgs_cons (fg_name (pg_name (i := 6) sc_soonest.nd rfl (Or.inl rfl))) (fgs_nil))) rfl) (fss_cons (fs_set (ps_set (i := 4) sc_soonest.nd rfl (Or.inl rfl) (fe_op2 (op2_ix _) (pe_ix ix_seq (fo_val (fe_call (pe_callS (ok_known T base) (hr.mono (by decide)) (by rfl) T.mg_known T.kp_known T.b_known (fun σ => passAt tk σ) (fa_cons (fo_val (fe_var (pv 0))) (fa_cons (fo_val (fe_var (pv 5))) (fa_cons (fo_val (fe_var (pv 4))) (fa_cons (fo_val (fe_var (pv 3))) (fa_nil)))))) rfl)) (fo_pk (pv 6)) (fun _ _ => rfl))))) (fss_one (fs_if (ft_op2 (op2_isN _) (pt_cmpR op_isN (fo_pk (pv 4)) (fo_val (fe_c pe_non .non (fun _ => rfl))) (nomark _))) (fss_one (fs_ret (fe_c pe_non .non (fun _ => rfl)))) (fss_nil)))))) (fss_one (fs_ret (fe_var (pv 4)))))
theorem sc__law_some : FnScope N__law_some ["hand", "things"] (defScope s__law_some) := ⟨rfl, rfl, rfl, by decide +kernel, rfl, by decide +kernel, by decide +kernel⟩
theorem ok__law_some (T : Txt K mg a) (base : Heap) : FnOk P w K mg base (L2.CX P w) 2 a.a__law_some a.d__law_some ["hand", "things"] (spF (gm K a) 2 sem__law_some) := by
  refine fn_ok T.f__law_some sc__law_some body__law_some 2 rfl 2 rfl fun cdv A outer sh H E hr => ?_
  have tk : Takes (cxOf (L2.CX P w) P w K mg base N__law_some "_law_some" (defScope s__law_some) a.a__law_some cdv A outer sh H E) (fun cls d _ H => E cls d H) := takes_of rfl rfl rfl rfl
  exact fss_one (fs_ret (fe_op2 (op2_ix _) (pe_ix ix_seq (fo_pk (pv 1)) (fo_val (fe_call (pe_callS (ok__law_draw T base) (hr.mono (by decide)) (by rfl) T.mg__law_draw T.kp__law_draw T.b__law_draw (fun σ => passAt tk σ) (fa_cons (fo_pk (pv 0)) (fa_cons (fo_val (fe_opL (opL_len _) (pe_callB callr_len (by rfl) T.b_len (by decide +kernel) (fa_cons (fo_pk (pv 1)) (fa_nil))))) (fa_nil)))) rfl)) (fun _ _ => rfl))))
theorem sc__law_earliest : FnScope N__law_earliest ["letters", "many", "order", "index", "barred"] (defScope s__law_earliest) := ⟨rfl, rfl, rfl, by decide +kernel, rfl, by decide +kernel, by decide +kernel⟩
theorem ok__law_earliest (T : Txt K mg a) (base : Heap) : FnOk P w K mg base (L2.CX P w) 2 a.a__law_earliest a.d__law_earliest ["letters", "many", "order", "index", "barred"] (spF (gm K a) 5 sem__law_earliest) := by
  refine fn_ok T.f__law_earliest sc__law_earliest body__law_earliest 5 rfl 7 rfl fun cdv A outer sh H E hr => ?_
  have tk : Takes (cxOf (L2.CX P w) P w K mg base N__law_earliest "_law_earliest" (defScope s__law_earliest) a.a__law_earliest cdv A outer sh H E) (fun cls d _ H => E cls d H) := takes_of rfl rfl rfl rfl
  exact fss_cons (fs_set (ps_set (i := 5) sc__law_earliest.nd rfl (Or.inl rfl) (fe_c pe_int (.int 0) (fun _ => rfl)))) (fss_cons (fs_for (ps_for (passes_of rfl) rfl (fi_range2 (pi_range2 (by rfl) T.b_range (fa_cons (fo_val (fe_c pe_int (.int 1) (fun _ => rfl))) (fa_cons (fo_val (fe_op2 (op2_add _) (pe_op opr_add (fo_pk (pv 3)) (fo_val (fe_c pe_int (.int 1) (fun _ => rfl)))))) (fa_nil))))) (fg_name (pg_name (i := 6) sc__law_earliest.nd rfl (Or.inl rfl))) (fss_cons (fs_set (ps_set (i := 5) sc__law_earliest.nd rfl (Or.inl rfl) (fe_op2 (op2_ix _) (pe_ix ix_seq (fo_val (fe_call (pe_callS (ok__law_spread T base) (hr.mono (by decide)) (by rfl) T.mg__law_spread T.kp__law_spread T.b__law_spread (fun σ => passAt tk σ) (fa_cons (fo_val (fe_var (pv 0))) (fa_cons (fo_val (fe_var (pv 1))) (fa_cons (fo_val (fe_op2 (op2_ix _) (pe_ix ix_seq (fo_pk (pv 2)) (fo_val (fe_op2 (op2_sub _) (pe_op op_sub (fo_pk (pv 6)) (fo_val (fe_c pe_int (.int 1) (fun _ => rfl)))))) (fun _ _ => rfl)))) (fa_cons (fo_val (fe_var (pv 5))) (fa_cons (fo_val (fe_var (pv 4))) (fa_nil))))))) rfl)) (fo_val (fe_op2 (op2_ix _) (pe_ix ix_seq (fo_pk (pv 2)) (fo_pk (pv 6)) (fun _ _ => rfl)))) (fun _ _ => rfl))))) (fss_one (fs_if (ft_op2 (op2_isN _) (pt_cmpR op_isN (fo_pk (pv 5)) (fo_val (fe_c pe_non .non (fun _ => rfl))) (nomark _))) (fss_one (fs_ret (fe_c pe_non .non (fun _ => rfl)))) (fss_nil)))))) (fss_one (fs_ret (fe_var (pv 5)))))
theorem sc__law_barred : FnScope N__law_barred ["hand", "letters"] (defScope s__law_barred) := ⟨rfl, rfl, rfl, by decide +kernel, rfl, by decide +kernel, by decide +kernel⟩
theorem ok__law_barred (T : Txt K mg a) (base : Heap) : FnOk P w K mg base (L2.CX P w) 2 a.a__law_barred a.d__law_barred ["hand", "letters"] (spF (gm K a) 2 sem__law_barred) := by
  refine fn_ok T.f__law_barred sc__law_barred body__law_barred 2 rfl 6 rfl fun cdv A outer sh H E hr => ?_
  have tk : Takes (cxOf (L2.CX P w) P w K mg base N__law_barred "_law_barred" (defScope s__law_barred) a.a__law_barred cdv A outer sh H E) (fun cls d _ H => E cls d H) := takes_of rfl rfl rfl rfl
  exact fss_cons (fs_set (ps_set (i := 2) sc__law_barred.nd rfl (Or.inl rfl) (fe_call (pe_callS (ok__law_draw T base) (hr.mono (by decide)) (by rfl) T.mg__law_draw T.kp__law_draw T.b__law_draw (fun σ => passAt tk σ) (fa_cons (fo_pk (pv 0)) (fa_cons (fo_val (fe_c pe_int (.int 6) (fun _ => rfl))) (fa_nil)))) rfl))) (fss_cons (fs_setN (ps_set (i := 3) sc__law_barred.nd rfl (Or.inl rfl) (fn_lst (pe_lst (fa_nil))))) (fss_cons (fs_for (ps_for (passes_of rfl) rfl (fi_range1 (pi_range1 (by rfl) T.b_range (fa_cons (fo_val (fe_opL (opL_len _) (pe_callB callr_len (by rfl) T.b_len (by decide +kernel) (fa_cons (fo_pk (pv 1)) (fa_nil))))) (fa_nil)))) (fg_name (pg_name (i := 4) sc__law_barred.nd rfl (Or.inl rfl))) (fss_cons (fs_set (ps_set (i := 5) sc__law_barred.nd rfl (Or.inl rfl) (fe_op2 (op2_ix _) (pe_ix ix_seq (fo_val (fe_fn (fn_lst (pe_lst (fa_cons (fo_val (fe_c pe_int (.int 0) (fun _ => rfl))) (fa_cons (fo_val (fe_c pe_int (.int 1) (fun _ => rfl))) (fa_cons (fo_val (fe_c pe_int (.int 1) (fun _ => rfl))) (fa_cons (fo_val (fe_c pe_int (.int 5) (fun _ => rfl))) (fa_cons (fo_val (fe_c pe_int (.int 9) (fun _ => rfl))) (fa_cons (fo_val (fe_c pe_int (.int 10) (fun _ => rfl))) (fa_nil))))))))))) (fo_pk (pv 2)) (fun _ _ => rfl))))) (fss_one (fs_if (ft_op2 (op2_lt _) (pt_cmpR opr_lt (fo_val (fe_call (pe_callS (ok__law_draw T base) (hr.mono (by decide)) (by rfl) T.mg__law_draw T.kp__law_draw T.b__law_draw (fun σ => passAt tk σ) (fa_cons (fo_pk (pv 0)) (fa_cons (fo_val (fe_c pe_int (.int 10) (fun _ => rfl))) (fa_nil)))) rfl)) (fo_pk (pv 5)) (nomark _))) (fss_one (fs_expr (ps_expr (fe_mt mtok_append (pe_bm PySem.F.plainAttrs_list PySem.F.slot_list_append PySem.F.type_list_append mt_append (fo_pk (pv 3)) (fa_cons (fo_val (fe_var (pv 4))) (fa_nil))))))) (fss_nil)))))) (fss_one (fs_ret (fe_opL (opL_tuple _) (pe_callTy call_tuple_of (by rfl) T.b_tuple (by decide +kernel) (fa_cons (fo_pk (pv 3)) (fa_nil))))))))
theorem sc_is_lot : FnScope N_is_lot ["thing", "below"] (defScope s_is_lot) := ⟨rfl, rfl, rfl, by decide +kernel, rfl, by decide +kernel, by decide +kernel⟩
theorem ok_is_lot (T : Txt K mg a) (base : Heap) : FnOk P w K mg base (L2.CX P w) 3 a.a_is_lot a.d_is_lot ["thing", "below"] (spF (gm K a) 2 sem_is_lot) := by
  refine fn_ok T.f_is_lot sc_is_lot body_is_lot 2 rfl 4 rfl fun cdv A outer sh H E hr => ?_
  have tk : Takes (cxOf (L2.CX P w) P w K mg base N_is_lot "is_lot" (defScope s_is_lot) a.a_is_lot cdv A outer sh H E) (fun cls d _ H => E cls d H) := takes_of rfl rfl rfl rfl
  exact fss_cons (fs_if (PW.pt (fw_or (ft_not (ft_val (pt_val (fe_opL (opL_isi _ T.insTy) (pe_callB call_isi (by rfl) T.b_isinstance (by decide +kernel) (fa_cons (fo_pk (pv 0)) (fa_cons (fo_val (fe_c (pe_bltn (v := .ty "tuple") (u := .type "tuple") (by rfl) T.b_tuple (by decide +kernel) rfl) (.ty "tuple") (fun _ => rfl))) (fa_nil)))))))) (fw_or1 (ft_not (ft_val (pt_val (fe_opL (opL_all _) (pe_callB (cr_all rfl) (by rfl) T.b_all (by decide +kernel) (fa_cons (fo_val (fe_fn (fn_lc (pe_lc (own := [("one", 2)]) rfl sc_is_lot.nd (fi_any rfl (pi_any (fe_var (pv 0)))) (blkOk_by (N := N_is_lot) (sc := defScope s_is_lot) (by decide +kernel)) (fun _ _ _ _ _ => fgv_name (by decide) (pg_name (i := 2) sc_is_lot.nd rfl (Or.inl rfl))) (fun _ _ _ _ _ => fts_nil) (fun _ _ _ _ _ => fe_call (pe_callS (ok_is_between T base) (hr.mono (by decide)) (by rfl) T.mg_is_between T.kp_is_between T.b_is_between (fun σ => passAt takes0 σ) (fa_cons (fo_val (fe_var (pv 2))) (fa_cons (fo_val (fe_c pe_int (.int 0) (fun _ => rfl))) (fa_cons (fo_val (fe_op2 (op2_sub _) (pe_op op_sub (fo_pk (pv 1)) (fo_val (fe_c pe_int (.int 1) (fun _ => rfl)))))) (fa_nil))))) rfl))))) (fa_nil)))))))))) (fss_one (fs_ret (fe_c pe_bl (.bl false) (fun _ => rfl)))) (fss_nil)) (fss_one (fs_ret (fe_opL (opL_all _) (pe_callB (cr_all rfl) (by rfl) T.b_all (by decide +kernel) (fa_cons (fo_val (fe_fn (fn_lc (pe_lc (own := [("one", 2), ("other", 3)]) rfl sc_is_lot.nd (fi_zip rfl (RZ.pi_zipA (by rfl) T.b_zip (fa_cons (fo_val (fe_var (pv 0))) (fa_cons (fo_val (fe_sl rfl (pe_slice slr_all (fo_pk (pv 0)) (fp_some (fe_c pe_int (.int 1) (fun _ => rfl))) (fp_none)))) (fa_nil))))) (blkOk_by (N := N_is_lot) (sc := defScope s_is_lot) (by decide +kernel)) (fun _ _ _ _ _ => fgv_tup rfl (fgvs_cons (fgv_name (by decide) (pg_name (i := 2) sc_is_lot.nd rfl (Or.inl rfl))) (fgvs_cons (fgv_name (by decide) (pg_name (i := 3) sc_is_lot.nd rfl (Or.inl rfl))) (fgvs_nil))) rfl) (fun _ _ _ _ _ => fts_nil) (fun _ _ _ _ _ => fe_op2 (op2_lt _) (pe_cmpR opr_lt (fo_pk (pv 2)) (fo_pk (pv 3)) (nomark _))))))) (fa_nil))))))
theorem sc_is_order : FnScope N_is_order ["many", "thing"] (defScope s_is_order) := ⟨rfl, rfl, rfl, by decide +kernel, rfl, by decide +kernel, by decide +kernel⟩
theorem ok_is_order (T : Txt K mg a) (base : Heap) : FnOk P w K mg base (L2.CX P w) 3 a.a_is_order a.d_is_order ["many", "thing"] (spF (gm K a) 2 sem_is_order) := by
  obtain ⟨u_MOST_OWNERS, m_MOST_OWNERS, r_MOST_OWNERS⟩ := T.k_MOST_OWNERS
  refine fn_ok T.f_is_order sc_is_order body_is_order 2 rfl 3 rfl fun cdv A outer sh H E hr => ?_
  have tk : Takes (cxOf (L2.CX P w) P w K mg base N_is_order "is_order" (defScope s_is_order) a.a_is_order cdv A outer sh H E) (fun cls d _ H => E cls d H) := takes_of rfl rfl rfl rfl
  exact fss_one (fs_ret (fe_and (pe_and (fe_call (pe_callS (ok_is_sized T base) (hr.mono (by decide)) (by rfl) T.mg_is_sized T.kp_is_sized T.b_is_sized (fun σ => passAt tk σ) (fa_cons (fo_val (fe_var (pv 1))) (fa_cons (fo_val (fe_c pe_int (.int 1) (fun _ => rfl))) (fa_cons (fo_val (fe_c (pe_glob (v := .int 40) (by rfl) m_MOST_OWNERS r_MOST_OWNERS) (.int 40) (fun _ => rfl))) (fa_nil))))) rfl) (pe_one (fe_opL (opL_all _) (pe_callB (cr_all rfl) (by rfl) T.b_all (by decide +kernel) (fa_cons (fo_val (fe_fn (fn_lc (pe_lc (own := [("one", 2)]) rfl sc_is_order.nd (fi_any rfl (pi_any (fe_var (pv 1)))) (blkOk_by (N := N_is_order) (sc := defScope s_is_order) (by decide +kernel)) (fun _ _ _ _ _ => fgv_name (by decide) (pg_name (i := 2) sc_is_order.nd rfl (Or.inl rfl))) (fun _ _ _ _ _ => fts_nil) (fun _ _ _ _ _ => fe_call (pe_callS (ok_is_between T base) (hr.mono (by decide)) (by rfl) T.mg_is_between T.kp_is_between T.b_is_between (fun σ => passAt takes0 σ) (fa_cons (fo_val (fe_var (pv 2))) (fa_cons (fo_val (fe_c pe_int (.int 0) (fun _ => rfl))) (fa_cons (fo_val (fe_op2 (op2_sub _) (pe_op op_sub (fo_pk (pv 0)) (fo_val (fe_c pe_int (.int 1) (fun _ => rfl)))))) (fa_nil))))) rfl))))) (fa_nil))))))))
theorem sc_check_house : FnScope N_check_house ["schedule", "house"] (defScope s_check_house) := ⟨rfl, rfl, rfl, by decide +kernel, rfl, by decide +kernel, by decide +kernel⟩
theorem ok_check_house (T : Txt K mg a) (base : Heap) : FnOk P w K mg base (L2.CX P w) 3 a.a_check_house a.d_check_house ["schedule", "house"] (spF (gm K a) 2 sem_check_house) := by
  refine fn_ok T.f_check_house sc_check_house body_check_house 2 rfl 2 rfl fun cdv A outer sh H E hr => ?_
  have tk : Takes (cxOf (L2.CX P w) P w K mg base N_check_house "check_house" (defScope s_check_house) a.a_check_house cdv A outer sh H E) (fun cls d _ H => E cls d H) := takes_of rfl rfl rfl rfl
  exact fss_one (fs_if (ft_not (ft_val (pt_val (fe_call (pe_callS (ok_is_between T base) (hr.mono (by decide)) (by rfl) T.mg_is_between T.kp_is_between T.b_is_between (fun σ => passAt tk σ) (fa_cons (fo_val (fe_var (pv 1))) (fa_cons (fo_val (fe_c pe_int (.int 0) (fun _ => rfl))) (fa_cons (fo_val (fe_op2 (op2_sub _) (pe_op op_sub (fo_val (fe_fld rfl T.cl (T.na_many) (pe_fld (fo_pk (pv 0)) rfl))) (fo_val (fe_c pe_int (.int 1) (fun _ => rfl)))))) (fa_nil))))) rfl)))) (fss_one (fs_never)) (fss_nil))
theorem sc_is_letter : FnScope N_is_letter ["many", "thing"] (defScope s_is_letter) := ⟨rfl, rfl, rfl, by decide +kernel, rfl, by decide +kernel, by decide +kernel⟩
theorem ok_is_letter (T : Txt K mg a) (base : Heap) : FnOk P w K mg base (L2.CX P w) 3 a.a_is_letter a.d_is_letter ["many", "thing"] (spF (gm K a) 2 sem_is_letter) := by
  obtain ⟨u_MOST_BEAT, m_MOST_BEAT, r_MOST_BEAT⟩ := T.k_MOST_BEAT
  refine fn_ok T.f_is_letter sc_is_letter body_is_letter 2 rfl 2 rfl fun cdv A outer sh H E hr => ?_
  have tk : Takes (cxOf (L2.CX P w) P w K mg base N_is_letter "is_letter" (defScope s_is_letter) a.a_is_letter cdv A outer sh H E) (fun cls d _ H => E cls d H) := takes_of rfl rfl rfl rfl
  exact fss_cons (fs_if (PW.pt (fw_or (ft_not (ft_val (pt_val (fe_call (pe_callS (ok_is_sized T base) (hr.mono (by decide)) (by rfl) T.mg_is_sized T.kp_is_sized T.b_is_sized (fun σ => passAt tk σ) (fa_cons (fo_val (fe_var (pv 1))) (fa_cons (fo_val (fe_c pe_int (.int 3) (fun _ => rfl))) (fa_cons (fo_val (fe_c pe_int (.int 3) (fun _ => rfl))) (fa_nil))))) rfl)))) (fw_or (ft_not (ft_val (pt_val (fe_call (pe_callS (ok_is_between T base) (hr.mono (by decide)) (by rfl) T.mg_is_between T.kp_is_between T.b_is_between (fun σ => passAt tk σ) (fa_cons (fo_val (fe_op2 (op2_ix _) (pe_ix ix_seq (fo_pk (pv 1)) (fo_val (fe_c pe_int (.int 0) (fun _ => rfl))) (fun _ _ => rfl)))) (fa_cons (fo_val (fe_c pe_int (.int 0) (fun _ => rfl))) (fa_cons (fo_val (fe_op2 (op2_sub _) (pe_op op_sub (fo_pk (pv 0)) (fo_val (fe_c pe_int (.int 1) (fun _ => rfl)))))) (fa_nil))))) rfl)))) (fw_or1 (ft_not (ft_val (pt_val (fe_call (pe_callS (ok_is_between T base) (hr.mono (by decide)) (by rfl) T.mg_is_between T.kp_is_between T.b_is_between (fun σ => passAt tk σ) (fa_cons (fo_val (fe_op2 (op2_ix _) (pe_ix ix_seq (fo_pk (pv 1)) (fo_val (fe_c pe_int (.int 1) (fun _ => rfl))) (fun _ _ => rfl)))) (fa_cons (fo_val (fe_c pe_int (.int 0) (fun _ => rfl))) (fa_cons (fo_val (fe_op2 (op2_sub _) (pe_op op_sub (fo_pk (pv 0)) (fo_val (fe_c pe_int (.int 1) (fun _ => rfl)))))) (fa_nil))))) rfl)))))))) (fss_one (fs_ret (fe_c pe_bl (.bl false) (fun _ => rfl)))) (fss_nil)) (fss_one (fs_ret (fe_and (pe_and (fe_op2 (op2_ne _) (pe_cmpR (op_neD hr.units) (fo_val (fe_op2 (op2_ix _) (pe_ix ix_seq (fo_pk (pv 1)) (fo_val (fe_c pe_int (.int 0) (fun _ => rfl))) (fun _ _ => rfl)))) (fo_val (fe_op2 (op2_ix _) (pe_ix ix_seq (fo_pk (pv 1)) (fo_val (fe_c pe_int (.int 1) (fun _ => rfl))) (fun _ _ => rfl)))) (nomark _))) (pe_one (fe_call (pe_callS (ok_is_between T base) (hr.mono (by decide)) (by rfl) T.mg_is_between T.kp_is_between T.b_is_between (fun σ => passAt tk σ) (fa_cons (fo_val (fe_op2 (op2_ix _) (pe_ix ix_seq (fo_pk (pv 1)) (fo_val (fe_c pe_int (.int 2) (fun _ => rfl))) (fun _ _ => rfl)))) (fa_cons (fo_val (fe_c pe_int (.int 0) (fun _ => rfl))) (fa_cons (fo_val (fe_c (pe_glob (v := .int 999) (by rfl) m_MOST_BEAT r_MOST_BEAT) (.int 999) (fun _ => rfl))) (fa_nil))))) rfl))))))
theorem sc__law_letters : FnScope N__law_letters ["hand", "many", "most"] (defScope s__law_letters) := ⟨rfl, rfl, rfl, by decide +kernel, rfl, by decide +kernel, by decide +kernel⟩
theorem ok__law_letters (T : Txt K mg a) (base : Heap) : FnOk P w K mg base (L2.CX P w) 3 a.a__law_letters a.d__law_letters ["hand", "many", "most"] (spF (gm K a) 3 sem__law_letters) := by
  refine fn_ok T.f__law_letters sc__law_letters body__law_letters 3 rfl 12 rfl fun cdv A outer sh H E hr => ?_
  have tk : Takes (cxOf (L2.CX P w) P w K mg base N__law_letters "_law_letters" (defScope s__law_letters) a.a__law_letters cdv A outer sh H E) (fun cls d _ H => E cls d H) := takes_of rfl rfl rfl rfl
  exact fss_cons (fs_setN (ps_set (i := 3) sc__law_letters.nd rfl (Or.inl rfl) (fn_lst (pe_lst (fa_nil))))) (fss_cons (fs_set (ps_set (i := 4) sc__law_letters.nd rfl (Or.inl rfl) (fe_call (pe_callS (ok__law_some T base) (hr.mono (by decide)) (by rfl) T.mg__law_some T.kp__law_some T.b__law_some (fun σ => passAt tk σ) (fa_cons (fo_pk (pv 0)) (fa_cons (fo_val (fe_fn (fn_lst (pe_lst (fa_cons (fo_val (fe_c pe_int (.int 0) (fun _ => rfl))) (fa_cons (fo_val (fe_c pe_int (.int 0) (fun _ => rfl))) (fa_cons (fo_val (fe_c pe_int (.int 0) (fun _ => rfl))) (fa_cons (fo_val (fe_c pe_int (.int 3) (fun _ => rfl))) (fa_cons (fo_val (fe_c pe_int (.int 800) (fun _ => rfl))) (fa_cons (fo_val (fe_c pe_int (.int 990) (fun _ => rfl))) (fa_nil))))))))))) (fa_nil)))) rfl))) (fss_cons (fs_set (ps_set (i := 5) sc__law_letters.nd rfl (Or.inl rfl) (fe_call (pe_callS (ok__law_some T base) (hr.mono (by decide)) (by rfl) T.mg__law_some T.kp__law_some T.b__law_some (fun σ => passAt tk σ) (fa_cons (fo_pk (pv 0)) (fa_cons (fo_val (fe_fn (fn_lst (pe_lst (fa_cons (fo_val (fe_c pe_int (.int 0) (fun _ => rfl))) (fa_cons (fo_val (fe_c pe_int (.int 1) (fun _ => rfl))) (fa_cons (fo_val (fe_c pe_int (.int 3) (fun _ => rfl))) (fa_cons (fo_val (fe_c pe_int (.int 30) (fun _ => rfl))) (fa_nil))))))))) (fa_nil)))) rfl))) (fss_cons (fs_set (ps_set (i := 6) sc__law_letters.nd rfl (Or.inl rfl) (fe_call (pe_callS (ok__law_some T base) (hr.mono (by decide)) (by rfl) T.mg__law_some T.kp__law_some T.b__law_some (fun σ => passAt tk σ) (fa_cons (fo_pk (pv 0)) (fa_cons (fo_val (fe_fn (fn_lst (pe_lst (fa_cons (fo_val (fe_c pe_int (.int 1) (fun _ => rfl))) (fa_cons (fo_val (fe_c pe_int (.int 2) (fun _ => rfl))) (fa_cons (fo_val (fe_c pe_int (.int 2) (fun _ => rfl))) (fa_cons (fo_val (fe_c pe_int (.int 4) (fun _ => rfl))) (fa_nil))))))))) (fa_nil)))) rfl))) (fss_cons (fs_set (ps_set (i := 7) sc__law_letters.nd rfl (Or.inl rfl) (fe_call (pe_callS (ok__law_some T base) (hr.mono (by decide)) (by rfl) T.mg__law_some T.kp__law_some T.b__law_some (fun σ => passAt tk σ) (fa_cons (fo_pk (pv 0)) (fa_cons (fo_val (fe_fn (fn_lst (pe_lst (fa_cons (fo_val (fe_c pe_int (.int 0) (fun _ => rfl))) (fa_cons (fo_val (fe_c pe_int (.int 0) (fun _ => rfl))) (fa_cons (fo_val (fe_c pe_int (.int 0) (fun _ => rfl))) (fa_cons (fo_val (fe_c pe_int (.int 3) (fun _ => rfl))) (fa_cons (fo_val (fe_c pe_int (.int 4) (fun _ => rfl))) (fa_nil)))))))))) (fa_nil)))) rfl))) (fss_cons (fs_set (ps_set (i := 8) sc__law_letters.nd rfl (Or.inl rfl) (fe_call (pe_callS (ok__law_draw T base) (hr.mono (by decide)) (by rfl) T.mg__law_draw T.kp__law_draw T.b__law_draw (fun σ => passAt tk σ) (fa_cons (fo_pk (pv 0)) (fa_cons (fo_val (fe_var (pv 1))) (fa_nil)))) rfl))) (fss_cons (fs_for (ps_for (passes_of rfl) rfl (fi_range1 (pi_range1 (by rfl) T.b_range (fa_cons (fo_val (fe_var (pv 2))) (fa_nil)))) (fg_name (pg_name (i := 9) sc__law_letters.nd rfl (Or.inl rfl))) (fss_cons (fs_if (ft_op2 (op2_gt _) (pt_cmpR opr_gt (fo_val (fe_call (pe_callS (ok__law_draw T base) (hr.mono (by decide)) (by rfl) T.mg__law_draw T.kp__law_draw T.b__law_draw (fun σ => passAt tk σ) (fa_cons (fo_pk (pv 0)) (fa_cons (fo_val (fe_c pe_int (.int 3) (fun _ => rfl))) (fa_nil)))) rfl)) (fo_val (fe_c pe_int (.int 0) (fun _ => rfl))) (nomark _))) (fss_one (fs_set (ps_set (i := 4) sc__law_letters.nd rfl (Or.inl rfl) (fe_opL (opL_min2 _) (pe_callB (call_min2 rfl) (by rfl) T.b_min (by decide +kernel) (fa_cons (fo_val (fe_c pe_int (.int 999) (fun _ => rfl))) (fa_cons (fo_val (fe_op2 (op2_add _) (pe_op opr_add (fo_pk (pv 4)) (fo_val (fe_call (pe_callS (ok__law_draw T base) (hr.mono (by decide)) (by rfl) T.mg__law_draw T.kp__law_draw T.b__law_draw (fun σ => passAt tk σ) (fa_cons (fo_pk (pv 0)) (fa_cons (fo_val (fe_op2 (op2_add _) (pe_op opr_add (fo_pk (pv 6)) (fo_val (fe_c pe_int (.int 1) (fun _ => rfl)))))) (fa_nil)))) rfl))))) (fa_nil)))))))) (fss_nil)) (fss_cons (fs_set (ps_set (i := 10) sc__law_letters.nd rfl (Or.inl rfl) (fe_if (ft_op2 (op2_gt _) (pt_cmpR opr_gt (fo_val (fe_call (pe_callS (ok__law_draw T base) (hr.mono (by decide)) (by rfl) T.mg__law_draw T.kp__law_draw T.b__law_draw (fun σ => passAt tk σ) (fa_cons (fo_pk (pv 0)) (fa_cons (fo_val (fe_op2 (op2_add _) (pe_op opr_add (fo_pk (pv 5)) (fo_val (fe_c pe_int (.int 1) (fun _ => rfl)))))) (fa_nil)))) rfl)) (fo_val (fe_c pe_int (.int 0) (fun _ => rfl))) (nomark _))) (fe_var (pv 8)) (fe_call (pe_callS (ok__law_draw T base) (hr.mono (by decide)) (by rfl) T.mg__law_draw T.kp__law_draw T.b__law_draw (fun σ => passAt tk σ) (fa_cons (fo_pk (pv 0)) (fa_cons (fo_val (fe_var (pv 1))) (fa_nil)))) rfl)))) (fss_cons (fs_set (ps_set (i := 11) sc__law_letters.nd rfl (Or.inl rfl) (fe_op2 (op2_mod _) (pe_op op_mod (fo_val (fe_opL (opL_int _) (pe_callTy call_int1 (by rfl) T.b_int (by decide +kernel) (fa_cons (fo_val (fe_op2 (op2_add _) (pe_op opr_add (fo_val (fe_op2 (op2_add _) (pe_op opr_add (fo_pk (pv 10)) (fo_val (fe_c pe_int (.int 1) (fun _ => rfl)))))) (fo_val (fe_call (pe_callS (ok__law_draw T base) (hr.mono (by decide)) (by rfl) T.mg__law_draw T.kp__law_draw T.b__law_draw (fun σ => passAt tk σ) (fa_cons (fo_pk (pv 0)) (fa_cons (fo_val (fe_op2 (op2_sub _) (pe_op op_sub (fo_pk (pv 1)) (fo_val (fe_c pe_int (.int 1) (fun _ => rfl)))))) (fa_nil)))) rfl))))) (fa_nil))))) (fo_pk (pv 1)))))) (fss_cons (fs_if (ft_op2 (op2_lt _) (pt_cmpR opr_lt (fo_val (fe_call (pe_callS (ok__law_draw T base) (hr.mono (by decide)) (by rfl) T.mg__law_draw T.kp__law_draw T.b__law_draw (fun σ => passAt tk σ) (fa_cons (fo_pk (pv 0)) (fa_cons (fo_val (fe_c pe_int (.int 4) (fun _ => rfl))) (fa_nil)))) rfl)) (fo_pk (pv 7)) (nomark _))) (fss_one (fs_asg (ps_asg (fe_tup (pe_tup (fa_cons (fo_val (fe_c pe_int (.int 0) (fun _ => rfl))) (fa_cons (fo_val (fe_c pe_int (.int 1) (fun _ => rfl))) (fa_nil))))) (fg_tup rfl (fgs_cons (fg_name (pg_name (i := 10) sc__law_letters.nd rfl (Or.inl rfl))) (fgs_cons (fg_name (pg_name (i := 11) sc__law_letters.nd rfl (Or.inl rfl))) (fgs_nil))) rfl)))) (fss_nil)) (fss_cons (fs_set (ps_set (i := 8) sc__law_letters.nd rfl (Or.inl rfl) (fe_var (pv 11)))) (fss_one (fs_if (ft_op2 (op2_notIn _) (pt_cmpR (opr_notIn (units65 hr)) (fo_val (fe_tup (pe_tup (fa_cons (fo_val (fe_var (pv 10))) (fa_cons (fo_val (fe_var (pv 11))) (fa_cons (fo_val (fe_var (pv 4))) (fa_nil))))))) (fo_pk (pv 3)) (by rfl))) (fss_one (fs_expr (ps_expr (fe_mt mtok_append (pe_bm PySem.F.plainAttrs_list PySem.F.slot_list_append PySem.F.type_list_append mt_append (fo_pk (pv 3)) (fa_cons (fo_val (fe_tup (pe_tup (fa_cons (fo_val (fe_var (pv 10))) (fa_cons (fo_val (fe_var (pv 11))) (fa_cons (fo_val (fe_var (pv 4))) (fa_nil))))))) (fa_nil))))))) (fss_nil)))))))))) (fss_one (fs_ret (fe_opL (opL_tuple _) (pe_callTy call_tuple_of (by rfl) T.b_tuple (by decide +kernel) (fa_cons (fo_pk (pv 3)) (fa_nil))))))))))))
theorem sc__law_beat : FnScope N__law_beat ["hand", "letters"] (defScope s__law_beat) := ⟨rfl, rfl, rfl, by decide +kernel, rfl, by decide +kernel, by decide +kernel⟩
theorem ok__law_beat (T : Txt K mg a) (base : Heap) : FnOk P w K mg base (L2.CX P w) 3 a.a__law_beat a.d__law_beat ["hand", "letters"] (spF (gm K a) 2 sem__law_beat) := by
  refine fn_ok T.f__law_beat sc__law_beat body__law_beat 2 rfl 7 rfl fun cdv A outer sh H E hr => ?_
  have tk : Takes (cxOf (L2.CX P w) P w K mg base N__law_beat "_law_beat" (defScope s__law_beat) a.a__law_beat cdv A outer sh H E) (fun cls d _ H => E cls d H) := takes_of rfl rfl rfl rfl
  exact fss_cons (fs_set (ps_set (i := 2) sc__law_beat.nd rfl (Or.inl rfl) (fe_op2 (op2_add _) (pe_op opr_add (fo_val (fe_fn (fn_lc (pe_lc (own := [("one", 4), ("other", 5), ("when", 6)]) rfl sc__law_beat.nd (fi_any rfl (pi_any (fe_var (pv 1)))) (blkOk_by (N := N__law_beat) (sc := defScope s__law_beat) (by decide +kernel)) (fun _ _ _ _ _ => fgv_tup rfl (fgvs_cons (fgv_name (by decide) (pg_name (i := 4) sc__law_beat.nd rfl (Or.inl rfl))) (fgvs_cons (fgv_name (by decide) (pg_name (i := 5) sc__law_beat.nd rfl (Or.inl rfl))) (fgvs_cons (fgv_name (by decide) (pg_name (i := 6) sc__law_beat.nd rfl (Or.inl rfl))) (fgvs_nil)))) rfl) (fun _ _ _ _ _ => fts_nil) (fun _ _ _ _ _ => fe_var (pv 6)))))) (fo_val (fe_fn (fn_lst (pe_lst (fa_cons (fo_val (fe_c pe_int (.int 0) (fun _ => rfl))) (fa_nil)))))))))) (fss_cons (fs_set (ps_set (i := 3) sc__law_beat.nd rfl (Or.inl rfl) (fe_call (pe_callS (ok__law_some T base) (hr.mono (by decide)) (by rfl) T.mg__law_some T.kp__law_some T.b__law_some (fun σ => passAt tk σ) (fa_cons (fo_pk (pv 0)) (fa_cons (fo_val (fe_var (pv 2))) (fa_nil)))) rfl))) (fss_one (fs_ret (fe_call (pe_callS (ok__law_some T base) (hr.mono (by decide)) (by rfl) T.mg__law_some T.kp__law_some T.b__law_some (fun σ => passAt tk σ) (fa_cons (fo_pk (pv 0)) (fa_cons (fo_val (fe_fn (fn_lst (pe_lst (fa_cons (fo_val (fe_c pe_int (.int 0) (fun _ => rfl))) (fa_cons (fo_val (fe_var (pv 3))) (fa_cons (fo_val (fe_var (pv 3))) (fa_cons (fo_val (fe_op2 (op2_add _) (pe_op opr_add (fo_pk (pv 3)) (fo_val (fe_c pe_int (.int 1) (fun _ => rfl)))))) (fa_cons (fo_val (fe_opL (opL_max2 _) (pe_callB (call_max2 rfl) (by rfl) T.b_max (by decide +kernel) (fa_cons (fo_val (fe_c pe_int (.int 0) (fun _ => rfl))) (fa_cons (fo_val (fe_op2 (op2_sub _) (pe_op op_sub (fo_pk (pv 3)) (fo_val (fe_c pe_int (.int 1) (fun _ => rfl)))))) (fa_nil)))))) (fa_cons (fo_val (fe_c pe_int (.int 1000) (fun _ => rfl))) (fa_cons (fo_val (fe_op2 (op2_sub _) (pe_op op_sub (fo_val (fe_op2 (op2_pow _) (pe_op op_pow (fo_val (fe_c pe_int (.int 10) (fun _ => rfl))) (fo_val (fe_c pe_int (.int 20) (fun _ => rfl)))))) (fo_val (fe_c pe_int (.int 1) (fun _ => rfl)))))) (fa_nil)))))))))))) (fa_nil)))) rfl))))
theorem sc_check_order : FnScope N_check_order ["many", "order"] (defScope s_check_order) := ⟨rfl, rfl, rfl, by decide +kernel, rfl, by decide +kernel, by decide +kernel⟩
theorem ok_check_order (T : Txt K mg a) (base : Heap) : FnOk P w K mg base (L2.CX P w) 4 a.a_check_order a.d_check_order ["many", "order"] (spF (gm K a) 2 sem_check_order) := by
  refine fn_ok T.f_check_order sc_check_order body_check_order 2 rfl 2 rfl fun cdv A outer sh H E hr => ?_
  have tk : Takes (cxOf (L2.CX P w) P w K mg base N_check_order "check_order" (defScope s_check_order) a.a_check_order cdv A outer sh H E) (fun cls d _ H => E cls d H) := takes_of rfl rfl rfl rfl
  exact fss_one (fs_if (ft_not (ft_val (pt_val (fe_call (pe_callS (ok_is_order T base) (hr.mono (by decide)) (by rfl) T.mg_is_order T.kp_is_order T.b_is_order (fun σ => passAt tk σ) (fa_cons (fo_val (fe_var (pv 0))) (fa_cons (fo_val (fe_var (pv 1))) (fa_nil)))) rfl)))) (fss_one (fs_never)) (fss_nil))
theorem sc_check_lot : FnScope N_check_lot ["schedule", "letters"] (defScope s_check_lot) := ⟨rfl, rfl, rfl, by decide +kernel, rfl, by decide +kernel, by decide +kernel⟩
theorem ok_check_lot (T : Txt K mg a) (base : Heap) : FnOk P w K mg base (L2.CX P w) 4 a.a_check_lot a.d_check_lot ["schedule", "letters"] (spF (gm K a) 2 sem_check_lot) := by
  refine fn_ok T.f_check_lot sc_check_lot body_check_lot 2 rfl 2 rfl fun cdv A outer sh H E hr => ?_
  have tk : Takes (cxOf (L2.CX P w) P w K mg base N_check_lot "check_lot" (defScope s_check_lot) a.a_check_lot cdv A outer sh H E) (fun cls d _ H => E cls d H) := takes_of rfl rfl rfl rfl
  exact fss_one (fs_if (ft_not (ft_val (pt_val (fe_call (pe_callS (ok_is_lot T base) (hr.mono (by decide)) (by rfl) T.mg_is_lot T.kp_is_lot T.b_is_lot (fun σ => passAt tk σ) (fa_cons (fo_val (fe_var (pv 1))) (fa_cons (fo_val (fe_opL (opL_len _) (pe_callB callr_len (by rfl) T.b_len (by decide +kernel) (fa_cons (fo_val (fe_fld rfl T.cl (T.na_letters) (pe_fld (fo_pk (pv 0)) rfl))) (fa_nil))))) (fa_nil)))) rfl)))) (fss_one (fs_never)) (fss_nil))
theorem sc_first_wrong : FnScope N_first_wrong ["many", "letters"] (defScope s_first_wrong) := ⟨rfl, rfl, rfl, by decide +kernel, rfl, by decide +kernel, by decide +kernel⟩
theorem ok_first_wrong (T : Txt K mg a) (base : Heap) : FnOk P w K mg base (L2.CX P w) 4 a.a_first_wrong a.d_first_wrong ["many", "letters"] (spF (gm K a) 2 sem_first_wrong) := by
  refine fn_ok T.f_first_wrong sc_first_wrong body_first_wrong 2 rfl 4 rfl fun cdv A outer sh H E hr => ?_
  have tk : Takes (cxOf (L2.CX P w) P w K mg base N_first_wrong "first_wrong" (defScope s_first_wrong) a.a_first_wrong cdv A outer sh H E) (fun cls d _ H => E cls d H) := takes_of rfl rfl rfl rfl
  exact fss_cons (fs_for (ps_for (passes_of rfl) rfl (fi_enum rfl (pi_enumA (by rfl) T.b_enumerate (fa_cons (fo_val (fe_var (pv 1))) (fa_nil)))) (fg_tup rfl (fgs_cons (fg_name (pg_name (i := 2) sc_first_wrong.nd rfl (Or.inl rfl))) (fgs_cons (fg_name (pg_name (i := 3) sc_first_wrong.nd rfl (Or.inl rfl))) (fgs_nil))) rfl) (fss_cons (fs_if (PW.pt (fw_or (ft_not (ft_val (pt_val (fe_call (pe_callS (ok_is_letter T base) (hr.mono (by decide)) (by rfl) T.mg_is_letter T.kp_is_letter T.b_is_letter (fun σ => passAt tk σ) (fa_cons (fo_val (fe_var (pv 0))) (fa_cons (fo_val (fe_var (pv 3))) (fa_nil)))) rfl)))) (fw_or1 (ft_op2 (op2_in _) (pt_cmpR (opr_in (units65 hr)) (fo_pk (pv 3)) (fo_val (fe_sl rfl (pe_slice slr_all (fo_pk (pv 1)) (fp_none) (fp_some (fe_var (pv 2)))))) (by rfl)))))) (fss_one (fs_ret (fe_var (pv 2)))) (fss_nil)) (fss_one (fs_if (PW.pt (fw_and (ft_op2 (op2_gt _) (pt_cmpR opr_gt (fo_pk (pv 2)) (fo_val (fe_c pe_int (.int 0) (fun _ => rfl))) (nomark _))) (fw_and1 (ft_op2 (op2_lt _) (pt_cmpR opr_lt (fo_val (fe_op2 (op2_ix _) (pe_ix ix_seq (fo_pk (pv 3)) (fo_val (fe_c pe_int (.int 2) (fun _ => rfl))) (fun _ _ => rfl)))) (fo_val (fe_op2 (op2_ix _) (pe_ix ix_seq (fo_val (fe_op2 (op2_ix _) (pe_ix ix_seq (fo_pk (pv 1)) (fo_val (fe_op2 (op2_sub _) (pe_op op_sub (fo_pk (pv 2)) (fo_val (fe_c pe_int (.int 1) (fun _ => rfl)))))) (fun _ _ => rfl)))) (fo_val (fe_c pe_int (.int 2) (fun _ => rfl))) (fun _ _ => rfl)))) (nomark _)))))) (fss_one (fs_ret (fe_var (pv 2)))) (fss_nil)))))) (fss_one (fs_ret (fe_c pe_non .non (fun _ => rfl))))
theorem sc_spread : FnScope N_spread ["schedule", "house", "beat", "barred"] (defScope s_spread) := ⟨rfl, rfl, rfl, by decide +kernel, rfl, by decide +kernel, by decide +kernel⟩
theorem ok_spread (T : Txt K mg a) (base : Heap) : FnOk P w K mg base (L2.CX P w) 5 a.a_spread a.d_spread ["schedule", "house", "beat", "barred"] (spF (gm K a) 4 sem_spread) := by
  refine fn_ok T.f_spread sc_spread body_spread 4 rfl 4 rfl fun cdv A outer sh H E hr => ?_
  have tk : Takes (cxOf (L2.CX P w) P w K mg base N_spread "spread" (defScope s_spread) a.a_spread cdv A outer sh H E) (fun cls d _ H => E cls d H) := takes_of rfl rfl rfl rfl
  exact fss_cons (fs_expr (ps_expr (fe_call (pe_callS (ok_check_house T base) (hr.mono (by decide)) (by rfl) T.mg_check_house T.kp_check_house T.b_check_house (fun σ => passAt tk σ) (fa_cons (fo_val (fe_var (pv 0))) (fa_cons (fo_val (fe_var (pv 1))) (fa_nil)))) rfl))) (fss_cons (fs_if (ft_not (ft_val (pt_val (fe_call (pe_callS (ok_is_number T base) (hr.mono (by decide)) (by rfl) T.mg_is_number T.kp_is_number T.b_is_number (fun σ => passAt tk σ) (fa_cons (fo_val (fe_var (pv 2))) (fa_nil))) rfl)))) (fss_one (fs_never)) (fss_nil)) (fss_cons (fs_expr (ps_expr (fe_call (pe_callS (ok_check_lot T base) (hr.mono (by decide)) (by rfl) T.mg_check_lot T.kp_check_lot T.b_check_lot (fun σ => passAt tk σ) (fa_cons (fo_val (fe_var (pv 0))) (fa_cons (fo_val (fe_var (pv 3))) (fa_nil)))) rfl))) (fss_one (fs_ret (fe_opL (opL_tuple _) (pe_callTy call_tuple_of (by rfl) T.b_tuple (by decide +kernel) (fa_cons (fo_val (fe_call (pe_callS (ok_known T base) (hr.mono (by decide)) (by rfl) T.mg_known T.kp_known T.b_known (fun σ => passAt tk σ) (fa_cons (fo_val (fe_var (pv 0))) (fa_cons (fo_val (fe_var (pv 1))) (fa_cons (fo_val (fe_var (pv 2))) (fa_cons (fo_val (fe_var (pv 3))) (fa_nil)))))) rfl)) (fa_nil))))))))
theorem sc_earliest : FnScope N_earliest ["schedule", "order", "index", "barred"] (defScope s_earliest) := ⟨rfl, rfl, rfl, by decide +kernel, rfl, by decide +kernel, by decide +kernel⟩
theorem ok_earliest (T : Txt K mg a) (base : Heap) : FnOk P w K mg base (L2.CX P w) 5 a.a_earliest a.d_earliest ["schedule", "order", "index", "barred"] (spF (gm K a) 4 sem_earliest) := by
  refine fn_ok T.f_earliest sc_earliest body_earliest 4 rfl 4 rfl fun cdv A outer sh H E hr => ?_
  have tk : Takes (cxOf (L2.CX P w) P w K mg base N_earliest "earliest" (defScope s_earliest) a.a_earliest cdv A outer sh H E) (fun cls d _ H => E cls d H) := takes_of rfl rfl rfl rfl
  exact fss_cons (fs_expr (ps_expr (fe_call (pe_callS (ok_check_order T base) (hr.mono (by decide)) (by rfl) T.mg_check_order T.kp_check_order T.b_check_order (fun σ => passAt tk σ) (fa_cons (fo_val (fe_fld rfl T.cl (T.na_many) (pe_fld (fo_pk (pv 0)) rfl))) (fa_cons (fo_val (fe_var (pv 1))) (fa_nil)))) rfl))) (fss_cons (fs_if (ft_not (ft_val (pt_val (fe_call (pe_callS (ok_is_between T base) (hr.mono (by decide)) (by rfl) T.mg_is_between T.kp_is_between T.b_is_between (fun σ => passAt tk σ) (fa_cons (fo_val (fe_var (pv 2))) (fa_cons (fo_val (fe_c pe_int (.int 0) (fun _ => rfl))) (fa_cons (fo_val (fe_op2 (op2_sub _) (pe_op op_sub (fo_val (fe_opL (opL_len _) (pe_callB callr_len (by rfl) T.b_len (by decide +kernel) (fa_cons (fo_pk (pv 1)) (fa_nil))))) (fo_val (fe_c pe_int (.int 1) (fun _ => rfl)))))) (fa_nil))))) rfl)))) (fss_one (fs_never)) (fss_nil)) (fss_cons (fs_expr (ps_expr (fe_call (pe_callS (ok_check_lot T base) (hr.mono (by decide)) (by rfl) T.mg_check_lot T.kp_check_lot T.b_check_lot (fun σ => passAt tk σ) (fa_cons (fo_val (fe_var (pv 0))) (fa_cons (fo_val (fe_var (pv 3))) (fa_nil)))) rfl))) (fss_one (fs_ret (fe_call (pe_callS (ok_soonest T base) (hr.mono (by decide)) (by rfl) T.mg_soonest T.kp_soonest T.b_soonest (fun σ => passAt tk σ) (fa_cons (fo_val (fe_var (pv 0))) (fa_cons (fo_val (fe_var (pv 1))) (fa_cons (fo_val (fe_var (pv 2))) (fa_cons (fo_val (fe_var (pv 3))) (fa_nil)))))) rfl)))))
theorem sc_Schedule___init__ : FnScope N_Schedule___init__ ["self", "many", "letters"] (defScope s_Schedule___init__) := ⟨rfl, rfl, rfl, by decide +kernel, rfl, by decide +kernel, by decide +kernel⟩
theorem ok_Schedule___init__ (T : Txt K mg a) (base : Heap) : FnOk P w K mg base (L2.CX P w) 5 a.a_Schedule___init__ a.d_Schedule___init__ ["self", "many", "letters"] (spF (gm K a) 3 sem_Schedule___init__) := by
  obtain ⟨u_LEAST_HOUSES, m_LEAST_HOUSES, r_LEAST_HOUSES⟩ := T.k_LEAST_HOUSES
  obtain ⟨u_MOST_HOUSES, m_MOST_HOUSES, r_MOST_HOUSES⟩ := T.k_MOST_HOUSES
  obtain ⟨u_MOST_LETTERS, m_MOST_LETTERS, r_MOST_LETTERS⟩ := T.k_MOST_LETTERS
  refine fn_ok T.f_Schedule___init__ sc_Schedule___init__ body_Schedule___init__ 3 rfl 4 rfl fun cdv A outer sh H E hr => ?_
  have tk : Takes (cxOf (L2.CX P w) P w K mg base N_Schedule___init__ "Schedule.__init__" (defScope s_Schedule___init__) a.a_Schedule___init__ cdv A outer sh H E) (fun cls d _ H => E cls d H) := takes_of rfl rfl rfl rfl
  exact fss_cons (fs_if (ft_not (ft_val (pt_val (fe_call (pe_callS (ok_is_between T base) (hr.mono (by decide)) (by rfl) T.mg_is_between T.kp_is_between T.b_is_between (fun σ => passAt tk σ) (fa_cons (fo_val (fe_var (pv 1))) (fa_cons (fo_val (fe_c (pe_glob (v := .int 2) (by rfl) m_LEAST_HOUSES r_LEAST_HOUSES) (.int 2) (fun _ => rfl))) (fa_cons (fo_val (fe_c (pe_glob (v := .int 8) (by rfl) m_MOST_HOUSES r_MOST_HOUSES) (.int 8) (fun _ => rfl))) (fa_nil))))) rfl)))) (fss_one (fs_never)) (fss_nil)) (fss_cons (fs_if (ft_not (ft_val (pt_val (fe_call (pe_callS (ok_is_sized T base) (hr.mono (by decide)) (by rfl) T.mg_is_sized T.kp_is_sized T.b_is_sized (fun σ => passAt tk σ) (fa_cons (fo_val (fe_var (pv 2))) (fa_cons (fo_val (fe_c pe_int (.int 0) (fun _ => rfl))) (fa_cons (fo_val (fe_c (pe_glob (v := .int 60) (by rfl) m_MOST_LETTERS r_MOST_LETTERS) (.int 60) (fun _ => rfl))) (fa_nil))))) rfl)))) (fss_one (fs_never)) (fss_nil)) (fss_cons (fs_set (ps_set (i := 3) sc_Schedule___init__.nd rfl (Or.inl rfl) (fe_call (pe_callS (ok_first_wrong T base) (hr.mono (by decide)) (by rfl) T.mg_first_wrong T.kp_first_wrong T.b_first_wrong (fun σ => passAt tk σ) (fa_cons (fo_val (fe_var (pv 1))) (fa_cons (fo_val (fe_var (pv 2))) (fa_nil)))) rfl))) (fss_cons (fs_if (ft_op2 (op2_notN _) (pt_cmpR op_notN (fo_pk (pv 3)) (fo_val (fe_c pe_non .non (fun _ => rfl))) (nomark _))) (fss_one (fs_never)) (fss_nil)) (fss_cons (fs_setFld rfl T.cl T.na_many (ps_fld (fo_pk (pv 0)) (fe_var (pv 1)) rfl)) (fss_one (fs_setFld rfl T.cl T.na_letters (ps_fld (fo_pk (pv 0)) (fe_var (pv 2)) rfl)))))))
theorem sc_law : FnScope N_law ["script"] (defScope s_law) := ⟨rfl, rfl, rfl, by decide +kernel, rfl, by decide +kernel, by decide +kernel⟩
theorem ok_law (T : Txt K mg a) (base : Heap) : FnOk P w K mg base (L2.CX P w) 10 a.a_law a.d_law ["script"] (spF (gm K a) 1 sem_law) := by
  refine fn_ok T.f_law sc_law body_law 1 rfl 13 rfl fun cdv A outer sh H E hr => ?_
  have tk : Takes (cxOf (L2.CX P w) P w K mg base N_law "law" (defScope s_law) a.a_law cdv A outer sh H E) (fun cls d _ H => E cls d H) := takes_of rfl rfl rfl rfl
  exact fss_cons (fs_setN (ps_set (i := 1) sc_law.nd rfl (Or.inr rfl) (fn_call (pe_callS (ok__law_hand T base) (hr.mono (by decide)) (by rfl) T.mg__law_hand T.kp__law_hand T.b__law_hand (fun σ => passAt tk σ) (fa_cons (fo_val (fe_var (pv 0))) (fa_nil))) rfl))) (fss_cons (fs_set (ps_set (i := 2) sc_law.nd rfl (Or.inr rfl) (fe_op2 (op2_add _) (pe_op opr_add (fo_val (fe_c pe_int (.int 2) (fun _ => rfl))) (fo_val (fe_call (pe_callS (ok__law_draw T base) (hr.mono (by decide)) (by rfl) T.mg__law_draw T.kp__law_draw T.b__law_draw (fun σ => passAt tk σ) (fa_cons (fo_pk (pv 1)) (fa_cons (fo_val (fe_c pe_int (.int 7) (fun _ => rfl))) (fa_nil)))) rfl)))))) (fss_cons (fs_set (ps_set (i := 3) sc_law.nd rfl (Or.inl rfl) (fe_call (pe_callS (ok__law_letters T base) (hr.mono (by decide)) (by rfl) T.mg__law_letters T.kp__law_letters T.b__law_letters (fun σ => passAt tk σ) (fa_cons (fo_pk (pv 1)) (fa_cons (fo_val (fe_var (pv 2))) (fa_cons (fo_val (fe_call (pe_callS (ok__law_some T base) (hr.mono (by decide)) (by rfl) T.mg__law_some T.kp__law_some T.b__law_some (fun σ => passAt tk σ) (fa_cons (fo_pk (pv 1)) (fa_cons (fo_val (fe_fn (fn_lst (pe_lst (fa_cons (fo_val (fe_c pe_int (.int 0) (fun _ => rfl))) (fa_cons (fo_val (fe_c pe_int (.int 1) (fun _ => rfl))) (fa_cons (fo_val (fe_c pe_int (.int 4) (fun _ => rfl))) (fa_cons (fo_val (fe_c pe_int (.int 8) (fun _ => rfl))) (fa_cons (fo_val (fe_c pe_int (.int 12) (fun _ => rfl))) (fa_cons (fo_val (fe_c pe_int (.int 30) (fun _ => rfl))) (fa_cons (fo_val (fe_c pe_int (.int 60) (fun _ => rfl))) (fa_nil)))))))))))) (fa_nil)))) rfl)) (fa_nil))))) rfl))) (fss_cons (fs_set (ps_set (i := 4) sc_law.nd rfl (Or.inl rfl) (fe_fn (fn_make (pe_makeS T.mk_Schedule (ok_Schedule___init__ T base) (hr.mono (by decide)) (by rfl) T.mg_Schedule T.b_Schedule___init__ (fun σ => passAt tk σ) (fa_cons (fo_val (fe_var (pv 2))) (fa_cons (fo_val (fe_var (pv 3))) (fa_nil)))) rfl)))) (fss_cons (fs_for (ps_for (passes_of rfl) rfl (fi_range1 (pi_range1 (by rfl) T.b_range (fa_cons (fo_val (fe_c pe_int (.int 4) (fun _ => rfl))) (fa_nil)))) (fg_name (pg_name (i := 5) sc_law.nd rfl (Or.inl rfl))) (fss_cons (fs_set (ps_set (i := 6) sc_law.nd rfl (Or.inl rfl) (fe_call (pe_callS (ok__law_barred T base) (hr.mono (by decide)) (by rfl) T.mg__law_barred T.kp__law_barred T.b__law_barred (fun σ => passAt tk σ) (fa_cons (fo_pk (pv 1)) (fa_cons (fo_val (fe_var (pv 3))) (fa_nil)))) rfl))) (fss_cons (fs_par (ps_par (i := 7) (j := 8) rfl sc_law.nd rfl rfl (by decide) rfl rfl (pa_cons (fe_call (pe_callS (ok__law_draw T base) (hr.mono (by decide)) (by rfl) T.mg__law_draw T.kp__law_draw T.b__law_draw (fun σ => passAt tk σ) (fa_cons (fo_pk (pv 1)) (fa_cons (fo_val (fe_var (pv 2))) (fa_nil)))) rfl) (pa_cons (fe_call (pe_callS (ok__law_beat T base) (hr.mono (by decide)) (by rfl) T.mg__law_beat T.kp__law_beat T.b__law_beat (fun σ => passAt tk σ) (fa_cons (fo_pk (pv 1)) (fa_cons (fo_val (fe_var (pv 3))) (fa_nil)))) rfl) pa_nil)) (by rfl))) (fss_cons (fs_set (ps_set (i := 9) sc_law.nd rfl (Or.inl rfl) (fe_call (pe_callS (ok__law_spread T base) (hr.mono (by decide)) (by rfl) T.mg__law_spread T.kp__law_spread T.b__law_spread (fun σ => passAt tk σ) (fa_cons (fo_val (fe_var (pv 3))) (fa_cons (fo_val (fe_var (pv 2))) (fa_cons (fo_val (fe_var (pv 7))) (fa_cons (fo_val (fe_var (pv 8))) (fa_cons (fo_val (fe_var (pv 6))) (fa_nil))))))) rfl))) (fss_cons (fs_if (ft_not (ft_val (pt_val (fe_call (pe_callS (ok__law_is T base 8) (hr.mono (by decide)) (by rfl) T.mg__law_is T.kp__law_is T.b__law_is (fun σ => passAt tk σ) (fa_cons (fo_val (fe_call (pe_callS (ok_spread T base) (hr.mono (by decide)) (by rfl) T.mg_spread T.kp_spread T.b_spread (fun σ => passAt tk σ) (fa_cons (fo_val (fe_var (pv 4))) (fa_cons (fo_val (fe_var (pv 7))) (fa_cons (fo_val (fe_var (pv 8))) (fa_cons (fo_val (fe_var (pv 6))) (fa_nil)))))) rfl)) (fa_cons (fo_val (fe_var (pv 9))) (fa_nil)))) rfl)))) (fss_one (fs_ret (fe_c pe_bl (.bl false) (fun _ => rfl)))) (fss_nil)) (fss_cons (fs_set (ps_set (i := 10) sc_law.nd rfl (Or.inl rfl) (fe_opL (opL_tuple _) (pe_callTy call_tuple_of (by rfl) T.b_tuple (by decide +kernel) (fa_cons (fo_val (fe_fn (fn_lc (pe_lc (own := [("k", 12)]) rfl sc_law.nd (fi_range1 (pi_range1 (by rfl) T.b_range (fa_cons (fo_val (fe_call (pe_callS (ok__law_some T base) (hr.mono (by decide)) (by rfl) T.mg__law_some T.kp__law_some T.b__law_some (fun σ => passAt tk σ) (fa_cons (fo_pk (pv 1)) (fa_cons (fo_val (fe_fn (fn_lst (pe_lst (fa_cons (fo_val (fe_c pe_int (.int 1) (fun _ => rfl))) (fa_cons (fo_val (fe_c pe_int (.int 2) (fun _ => rfl))) (fa_cons (fo_val (fe_c pe_int (.int 3) (fun _ => rfl))) (fa_cons (fo_val (fe_c pe_int (.int 5) (fun _ => rfl))) (fa_cons (fo_val (fe_c pe_int (.int 9) (fun _ => rfl))) (fa_cons (fo_val (fe_c pe_int (.int 40) (fun _ => rfl))) (fa_nil))))))))))) (fa_nil)))) rfl)) (fa_nil)))) (blkOk_by (N := N_law) (sc := defScope s_law) (by decide +kernel)) (fun _ _ _ _ _ => fgv_name (by decide) (pg_name (i := 12) sc_law.nd rfl (Or.inl rfl))) (fun _ _ _ _ _ => fts_nil) (fun _ _ _ _ _ => fe_call (pe_callS (ok__law_draw T base) (hr.mono (by decide)) (by rfl) T.mg__law_draw T.kp__law_draw T.b__law_draw (fun σ => passAt takes0 σ) (fa_cons (fo_pk (pv 1)) (fa_cons (fo_val (fe_var (pv 2))) (fa_nil)))) rfl))))) (fa_nil)))))) (fss_one (fs_for (ps_for (passes_of rfl) rfl (fi_any rfl (pi_any (fe_fn (fn_lst (pe_lst (fa_cons (fo_val (fe_c pe_int (.int 0) (fun _ => rfl))) (fa_cons (fo_val (fe_op2 (op2_sub _) (pe_op op_sub (fo_val (fe_opL (opL_len _) (pe_callB callr_len (by rfl) T.b_len (by decide +kernel) (fa_cons (fo_pk (pv 10)) (fa_nil))))) (fo_val (fe_c pe_int (.int 1) (fun _ => rfl)))))) (fa_cons (fo_val (fe_call (pe_callS (ok__law_draw T base) (hr.mono (by decide)) (by rfl) T.mg__law_draw T.kp__law_draw T.b__law_draw (fun σ => passAt tk σ) (fa_cons (fo_pk (pv 1)) (fa_cons (fo_val (fe_opL (opL_len _) (pe_callB callr_len (by rfl) T.b_len (by decide +kernel) (fa_cons (fo_pk (pv 10)) (fa_nil))))) (fa_nil)))) rfl)) (fa_cons (fo_val (fe_call (pe_callS (ok__law_draw T base) (hr.mono (by decide)) (by rfl) T.mg__law_draw T.kp__law_draw T.b__law_draw (fun σ => passAt tk σ) (fa_cons (fo_pk (pv 1)) (fa_cons (fo_val (fe_opL (opL_len _) (pe_callB callr_len (by rfl) T.b_len (by decide +kernel) (fa_cons (fo_pk (pv 10)) (fa_nil))))) (fa_nil)))) rfl)) (fa_nil)))))))))) (fg_name (pg_name (i := 11) sc_law.nd rfl (Or.inl rfl))) (fss_cons (fs_set (ps_set (i := 9) sc_law.nd rfl (Or.inl rfl) (fe_call (pe_callS (ok__law_earliest T base) (hr.mono (by decide)) (by rfl) T.mg__law_earliest T.kp__law_earliest T.b__law_earliest (fun σ => passAt tk σ) (fa_cons (fo_val (fe_var (pv 3))) (fa_cons (fo_val (fe_var (pv 2))) (fa_cons (fo_val (fe_var (pv 10))) (fa_cons (fo_val (fe_var (pv 11))) (fa_cons (fo_val (fe_var (pv 6))) (fa_nil))))))) rfl))) (fss_one (fs_if (ft_not (ft_val (pt_val (fe_call (pe_callS (ok__law_is T base 8) (hr.mono (by decide)) (by rfl) T.mg__law_is T.kp__law_is T.b__law_is (fun σ => passAt tk σ) (fa_cons (fo_val (fe_call (pe_callS (ok_earliest T base) (hr.mono (by decide)) (by rfl) T.mg_earliest T.kp_earliest T.b_earliest (fun σ => passAt tk σ) (fa_cons (fo_val (fe_var (pv 4))) (fa_cons (fo_val (fe_var (pv 10))) (fa_cons (fo_val (fe_var (pv 11))) (fa_cons (fo_val (fe_var (pv 6))) (fa_nil)))))) rfl)) (fa_cons (fo_val (fe_var (pv 9))) (fa_nil)))) rfl)))) (fss_one (fs_ret (fe_c pe_bl (.bl false) (fun _ => rfl)))) (fss_nil)))))))))))))) (fss_one (fs_ret (fe_eqI (pe_cmpR (op_eqI (ok_Schedule___eq__ T base) T.eq_Schedule T.eqf_Schedule T.b_Schedule___eq__ (hr.mono (by decide))) (fo_pk (pv 4)) (fo_val (fe_fn (fn_make (pe_makeS T.mk_Schedule (ok_Schedule___init__ T base) (hr.mono (by decide)) (by rfl) T.mg_Schedule T.b_Schedule___init__ (fun σ => passAt tk σ) (fa_cons (fo_val (fe_var (pv 2))) (fa_cons (fo_val (fe_var (pv 3))) (fa_nil)))) rfl))) (nomark _)))))))))
end
end Law

namespace Law
open PySem PySem.Spec PyProof.Rows L2 FL
open Lean in
local macro_rules | `(tactic| walk_at $s:str) => do
  let ws := s.getString.splitOn " "
  match ws with
  | "run" :: r =>
    let xs : Array (TSyntax `Lean.Parser.Tactic.simpLemma) ← (r.filter (· != "")).toArray.mapM fun n => do
      let i : TSyntax `term := mkIdent n.toName
      `(Lean.Parser.Tactic.simpLemma| $i:term)
    `(tactic| simp only [x_val, x_bad, x_exc, x_Rsome, x_Rnone, x_ite, x_fPk, x_fVar, pkV_fz, pkV_own, pkV_bor, vrV_fz, vrV_own, get_v, get_pk, slC_fz, slC_own, slC_bor, x_fC, x_fV, x_fOp2, r2_ss, x_fAs0, x_fAs1, x_arGets0, x_arGets1, cons2_s, x_valsOf0, x_valsOf1, rL_s, x_fOpL, x_fOpV, x_fAnd, x_fOr, andK_t, andK_f, orK_t, orK_f, x_tAnd, x_tOr, x_tNot, x_tYes, tandK_t, tandK_f, torK_t, torK_f, x_fIf, ifK_t, ifK_f, x_fTest, asB_bl, x_fNot, x_fChain, chK_t, chK_f, x_fNx, x_fBrk, x_fCnt, x_fBad, x_seq, seqK_nx, seqK_rt, seqK_rn, seqK_bk, seqK_ct, loopK_nx, loopK_ct, loopK_bk, loopK_rt, loopK_rn, nxK_nx, lpK_nx, lpK_ct, lpK_bk, lpK_rt, lpK_rn, tsK_t, tsK_f, endK_nx, endK_rt, endM_rn, bakK_s, bk_nil', bk_fz', bk_bor', bCons_s, x_fDrop, x_fRet, x_fRetN, x_fRet0, x_fSet, x_fSetN, x_fPar, x_fParNE, x_fParEN, x_fAsg, x_asgK, someK_s, x_bName, x_bTup, x_bAll0, x_bAll1, x_obind, x_fFor, x_fLc, x_fCall, x_fCallN, calK_s, calM_s, retK_s, x_backK, runC_val, runN_new, lend0, lend_v1, lend_pk1, sCons2_s, lendS1_fz, lendS1_own, lendS1_bor, unl_pk, unl_pkno, unl_v, unl_nil, putO_fz, putO_own, putO_bor, x_fFld, rFld_s, x_fSl, rSl_s, x_pNone, x_pSome, asI_int, x_iAny, x_iRng, x_iZip, x_iEnum, x_fSetIx, rIx_own, rIx_bor, x_fMt, mtK_s, rMt_own, rMt_bor, x_fIsiT, x_fSetFld', rSF_bor, rSF_own, x_fMake, mkK_s, mkK2_s, x_fEqI, eqK_s, List.take_succ_cons, List.take_zero, cut_nat, cut_hi, cut_lo, cut_lohi, Int.zero_add, Int.cast_ofNat_Int, Int.natCast_zero, Int.natCast_one,
      List.length_cons, List.length_nil, List.cons_append, List.nil_append, List.replicate_succ, List.replicate_zero, List.getElem?_cons_zero, List.getElem?_cons_succ, List.set_cons_zero, List.set_cons_succ, Nat.reduceAdd, Nat.reduceSub, Nat.reduceMul, Nat.zero_add, Int.reduceAdd, Int.reduceSub, Int.reduceMul, Int.reduceNeg, Int.reducePow, Int.reduceLT, Int.reduceLE, Int.reduceEq, Int.reduceToNat, Nat.reducePow, Nat.reduceLT, Nat.reduceLeDiff,
      once_0, once_v, once_pk, pkIs_v, pkIs_pk, Nat.reduceBEq, sh_0, sh_fz', sh_bor', List.any_nil, List.any_cons, Bool.not_false, Bool.not_true, Bool.and_self, Bool.or_false, Bool.false_or, Bool.true_and, Bool.and_true, Bool.true_or, Bool.or_true, true_and, and_true, Bool.or_self, Bool.false_and, Bool.and_false, Bool.not_not,
      oAdd, oSub, oMul, oDiv, oMod, oLt, oLe, oGt, oGe, B64_def, x_ixL, x_ixT, x_slT, x_slL, x_slS, x_itT, x_itL, x_itS, x_itZT, x_itZL, x_itET, x_itEL, x_app, lD0, lD1, lD2, oD_n, oD_s, x_bTup3,  oLen, oInt, oEq_int, oNe_int, oEq_bl, oNe_bl, oIsN, oNotN, isNon, Option.map_some, Option.map_none, atI_0, atI_1, atI_2, atI_3, atI_4, ixN_0, ixN_1, ixN_2, ixN_3, ixN_4, oTupD, oLstD, oTuple, oMin2, oMax2, oAbs, wipeE, restoreE, keepF, decide_true, decide_false, tIsi, tyName, tgs_int, tgs_bool, tgs_tuple, tgs_list, tgs_str, st_ii, st_ib, st_bi, st_bb, st_tt, st_ti, st_it, st_ll, st_lt, st_tl, st_ni, st_nb, st_nt, st_nl, st_tb, st_lb, st_li, st_il, st_bt, st_bl', rTL, st_nt2, st_nl2, reduceIte, reduceCtorEq, and_self, or_true, true_or, $xs,*])
  | "tgt" :: _ => `(tactic| simp only [x_bName, x_bTup, x_bTup3, x_bAll0, x_bAll1, x_obind, someK_s, Int.zero_add, List.set_cons_succ, List.set_cons_zero])
  | "spl" :: _ => `(tactic| ((with_reducible (first | refine tandK_if ?_ ?_ | refine torK_if ?_ ?_ | refine ifK_if ?_ ?_ | refine andK_if ?_ ?_ | refine orK_if ?_ ?_ | refine chK_if ?_ ?_ | refine tsK_if ?_ ?_)) <;> (intro hyp; (try simp only [Bool.and_eq_true, Bool.or_eq_true, Bool.and_eq_false_iff, Bool.or_eq_false_iff, beq_iff_eq, decide_eq_true_eq, decide_eq_false_iff_not, beq_eq_false_iff_ne, Bool.not_eq_true', Bool.not_eq_false', Bool.not_eq_true, Bool.not_eq_false, ne_eq, not_true_eq_false, not_false_eq_true, Bool.true_eq_false, Bool.false_eq_true] at hyp); try (exfalso; omega))))
  | "side" :: _ => `(tactic| (with_reducible refine And.intro (by first | omega | assumption | exact sl16 (by omega) | (refine And.intro ?_ ?_ <;> omega)) ?_))
  | "go" :: _ => do
    let q := Syntax.mkStrLit ("run" ++ (s.getString.drop 2).toString)
    `(tactic| repeat' (first | walk_at $q:str | walk_at "spl" | walk_at "side"))
  | _ => Lean.Macro.throwUnsupported
theorem p18 : oPow (.int 10) (.int 18) = some (.int 1000000000000000000) := by rfl
theorem e_is_integer (x : Int) : sem_is_integer [.fz (.int x)] = .val (.bl true) [.no] := by
  refine fn_eq ?_
  walk_at "go body_is_integer"
theorem e_is_between (x lo hi : Int) : sem_is_between [.fz (.int x), .fz (.int lo), .fz (.int hi)] = .val (.bl (decide (lo ≤ x) && decide (x ≤ hi))) [.no, .no, .no] := by
  refine fn_eq ?_
  walk_at "go body_is_between e_is_integer"
  all_goals simp [*]
theorem e_is_number (x : Int) : sem_is_number [.fz (.int x)] = .val (.bl (decide (0 ≤ x))) [.no] := by
  refine fn_eq ?_
  walk_at "go body_is_number e_is_integer"
theorem e_is_sized (xs : List D) (lo hi : Int) (hx : xs.length ≤ sizeLine) : sem_is_sized [.fz (.tup xs), .fz (.int lo), .fz (.int hi)] = .val (.bl (decide (lo ≤ xs.length) && decide ((xs.length : Int) ≤ hi))) [.no, .no, .no] := by
  refine fn_eq ?_
  walk_at "go body_is_sized hx"
  all_goals simp [*]
def HandD (d : D) : Prop := ∃ (cells : List Int) (i : Nat) (b s c : Int), cells.length ≤ 63 ∧ d = .lst [.lst (cells.map .int), .int i, .int b, .int s, .int c]
theorem draw_ok {h : D} {k : Nat} {m : Int} (hh : HandD h) (h0 : 0 < m) (h1 : m < 1073741824) : wpF (sem__law_draw [.bor k h, .fz (.int m)]) (fun d bs => ∃ r h', d = .int r ∧ bs = [.bor k h', .no] ∧ HandD h' ∧ 0 ≤ r ∧ r < m) := by
  obtain ⟨cells, i, b, s, c, hc, rfl⟩ := hh
  have hs : cells.length ≤ sizeLine := sl16 (by omega)
  have m0 : ∀ x : Int, 0 ≤ x % m := fun x => Int.emod_nonneg x (by omega)
  have m1 : ∀ x : Int, x % m < m := fun x => Int.emod_lt_of_pos x h0
  have fin : ∀ (x : Int) (j : Nat) (b s c : Int), ∃ r h', D.int (x % m) = .int r ∧ [Sl.bor k (D.lst [D.lst (List.map D.int cells), D.int j, D.int b, D.int s, D.int c]), Sl.no] = [.bor k h', .no] ∧ HandD h' ∧ 0 ≤ r ∧ r < m :=
    fun x j b s c => ⟨_, _, rfl, rfl, ⟨cells, j, b, s, c, hc, rfl⟩, m0 x, m1 x⟩
  refine fn_run ?_
  walk_at "go body__law_draw p18 List.length_map hs"
  all_goals first | exact fin _ _ _ _ _ | skip
  rename_i hb hi
  obtain ⟨x, hx⟩ : ∃ x, cells[i]? = some x := ⟨_, List.getElem?_eq_getElem (by omega)⟩
  have gx : atI (cells.map D.int) (i : Int) = some (.int x) := by rw [atI_nat', List.getElem?_map, hx]; rfl
  walk_at "go gx p18 List.length_map hs"
  all_goals first | exact fin _ (i + 1) _ _ _ | skip
theorem some_ok {h : D} {k : Nat} {xs : List D} (hh : HandD h) (h0 : 0 < xs.length) (h1 : xs.length ≤ 1000000) : wpF (sem__law_some [.bor k h, .fz (.lst xs)]) (fun d bs => ∃ h', d ∈ xs ∧ bs = [.bor k h', .no] ∧ HandD h') := by
  have hs : xs.length ≤ sizeLine := sl16 h1
  refine fn_run ?_
  walk_at "go body__law_some hs"
  refine call_by (draw_ok hh (by omega) (by omega)) ?_
  rintro d bs ⟨r, h', rfl, rfl, hh', r0, r1⟩
  obtain ⟨x, hx⟩ : ∃ x, xs[r.toNat]? = some x := ⟨_, List.getElem?_eq_getElem (by omega)⟩
  have gx : atI xs r = some x := atI_get r0 hx
  walk_at "go gx"
  exact ⟨h', List.mem_of_getElem? hx, rfl, hh'⟩
theorem hand_ok {ns : List Int} (h : ns.length ≤ 63) : wpN (sem__law_hand [.fz (.scr ns)]) (fun d bs => HandD d ∧ bs = [.no]) := by
  have hs : ns.length ≤ sizeLine := sl16 (by omega)
  have ht : List.take 63 ns = ns := List.take_of_length_le h
  refine fn_runN ?_
  walk_at "go body__law_hand take_map' ht"
  refine lc_fun (k := D.int) hs D.int (fun x _ => ?_) ?_
  · walk_at "go"
  · have l5 : (5 : Nat) ≤ sizeLine := sl16 (by omega)
    have hm : (List.map D.int ns).length ≤ sizeLine := by rw [List.length_map]; exact hs
    walk_at "go take_map' ht hm l5"
    exact ⟨ns, 0, 0, _, 0, h, rfl⟩

/-! ## letters -/
structure LetOk (many : Int) (l : L3) : Prop where
  a0 : 0 ≤ l.1
  a1 : l.1 < many
  b0 : 0 ≤ l.2.1
  b1 : l.2.1 < many
  ne : l.1 ≠ l.2.1
  t0 : 0 ≤ l.2.2
  t1 : l.2.2 ≤ 999
abbrev Rises (ls : List L3) : Prop := ls.Pairwise fun a b => a.2.2 ≤ b.2.2
structure SchOk (many : Int) (ls : List L3) : Prop where
  m0 : 2 ≤ many
  m1 : many ≤ 8
  le : ls.length ≤ 60
  ok : ∀ l, l ∈ ls → LetOk many l
  up : Rises ls
  nd : ls.Nodup
def schD (many : Int) (ls : List L3) : D := .ins 0 ["many", "letters"] [.int many, .tup (ls.map lD)]
theorem sl3 : (3 : Nat) ≤ sizeLine := sl16 (by omega)
theorem e_is_letter {many : Int} {l : L3} (h : LetOk many l) : sem_is_letter [.fz (.int many), .fz (lD l)] = .val (.bl true) [.no, .no] := by
  obtain ⟨a, b, t⟩ := l
  obtain ⟨a0, a1, b0, b1, ne, t0, t1⟩ := h
  simp only at a0 a1 b0 b1 ne t0 t1
  have es := e_is_sized [.int a, .int b, .int t] 3 3 sl3
  have e1 := e_is_between a 0 (many - 1)
  have e2 := e_is_between b 0 (many - 1)
  have e3 := e_is_between t 0 999
  rw [decide_eq_true (by omega), decide_eq_true (by omega)] at e1 e2 e3
  have ne' : (a == b) = false := by simpa using ne
  refine fn_eq ?_
  unfold lD
  walk_at "go body_is_letter es e1 e2 e3 ne'"
theorem e_first_wrong {many : Int} {ls : List L3} (h : SchOk many ls) : sem_first_wrong [.fz (.int many), .fz (.tup (ls.map lD))] = .val .non [.no, .no] := by
  refine fn_eq ?_
  walk_at "go body_first_wrong"
  refine for_enum (fun n r E => ∃ pre s2 s3, ls = pre ++ r ∧ pre.length = n ∧ E = [.fz (.int many), .fz (.tup (ls.map lD)), s2, s3]) ⟨[], _, _, rfl, rfl, rfl⟩ ?_ ?_
  · rintro n x r E ⟨pre, s2, s3, e, rfl, rfl⟩
    have hx : x ∈ ls := by rw [e]; simp
    have e1 := e_is_letter (h.ok x hx)
    have hn : x ∉ pre := fun hp => by
      have := h.nd
      rw [e, List.nodup_append] at this
      exact this.2.2 x hp x (by simp) rfl
    have tk : ls.take pre.length = pre := by rw [e]; simp
    have e2 := Enc.oInT Enc.l3 (by omega) x pre
    simp only [hn, decide_false] at e2
    have fin : ∃ pre' s2 s3, ls = pre' ++ r ∧ pre'.length = pre.length + 1 ∧ [Sl.fz (.int many), .fz (.tup (ls.map lD)), .fz (.int pre.length), .fz (lD x)] = [Sl.fz (.int many), .fz (.tup (ls.map lD)), s2, s3] := ⟨pre ++ [x], _, _, by simp [e], by simp, rfl⟩
    walk_at "go e1 e2 take_map' tk"
    all_goals first | exact fin | skip
    rename_i hp
    obtain ⟨y, hy⟩ : ∃ y, pre[pre.length - 1]? = some y := ⟨_, List.getElem?_eq_getElem (by omega)⟩
    have hy2 : ls[((pre.length : Int) - 1).toNat]? = some y := by
      rw [show ((pre.length : Int) - 1).toNat = pre.length - 1 by omega, e, List.getElem?_append_left (by omega)]
      exact hy
    have e3 : atI (ls.map lD) ((pre.length : Int) - 1) = some (lD y) := atI_map (by omega) hy2
    have le : ¬ x.2.2 < y.2.2 := by
      have := h.up
      rw [e, Rises, List.pairwise_append] at this
      have := this.2.2 y (List.mem_of_getElem? hy) x (by simp)
      omega
    walk_at "go e3 le"
    exact fin
  · rintro n E ⟨pre, s2, s3, e, rfl, rfl⟩
    walk_at "go"
theorem lk_many {a b : D} : lookD "many" ["many", "letters"] [a, b] = some a := by rfl
theorem lk_letters {a b : D} : lookD "letters" ["many", "letters"] [a, b] = some b := by rfl
theorem pn1 : putN "many" [] = (["many"] : List Str) := by rfl
theorem pd1 {d : D} : putD "many" d [] [] = [d] := by rfl
theorem pn2 : putN "letters" ["many"] = (["many", "letters"] : List Str) := by rfl
theorem pd2 {d e : D} : putD "letters" d ["many"] [e] = [e, d] := by rfl
theorem e_init {many : Int} {ls : List L3} {k : Nat} (h : SchOk many ls) : sem_Schedule___init__ [.bor k (.ins 0 [] []), .fz (.int many), .fz (.tup (ls.map lD))] = .val .non [.bor k (schD many ls), .no, .no] := by
  have e1 := e_is_between many 2 8
  have e2 := e_is_sized (ls.map lD) 0 60 (by rw [List.length_map]; exact sl16 (by have := h.le; omega))
  have e3 := e_first_wrong h
  have h0 := h.m0
  have h1 := h.m1
  have h2 := h.le
  rw [decide_eq_true (by omega), decide_eq_true (by omega)] at e1
  rw [decide_eq_true (by omega), decide_eq_true (by rw [List.length_map]; omega)] at e2
  refine fn_eq ?_
  walk_at "go body_Schedule___init__ e1 e2 e3 pn1 pd1 pn2 pd2 schD"
theorem e_eq {many : Int} {ls : List L3} (h : SchOk many ls) : sem_Schedule___eq__ [.fz (schD many ls), .fz (schD many ls)] = .val (.bl true) [.no, .no] := by
  refine fn_eq ?_
  have e2 := Enc.l3.tup.eq (by omega) ls ls
  simp only [decide_true] at e2
  have e3 : oIsi [schD many ls, .cls 0] = some (.bl true) := rfl
  have b : (many == many) = true := by simp
  walk_at "go body_Schedule___eq__ e3"
  simp only [schD]
  walk_at "go lk_many lk_letters e2 b"
/-! ## lots and orders -/
abbrev Up (xs : List Int) : Prop := xs.Pairwise (· < ·)
def lot (xs : List Int) : D := .tup (xs.map .int)
theorem up_zip : ∀ {xs : List Int}, Up xs → ((xs.zip (xs.drop 1)).all fun p => decide (p.1 < p.2)) = true
  | [], _ => rfl
  | [_], _ => rfl
  | x :: y :: r, h => by
    have h2 := List.pairwise_cons.mp h
    have := up_zip h2.2
    simp only [List.drop_succ_cons, List.drop_zero, List.zip_cons_cons, List.all_cons, Bool.and_eq_true, decide_eq_true_eq] at this ⊢
    exact ⟨h2.1 y (by simp), this⟩
theorem e_is_lot {xs : List Int} {n : Int} (h : Up xs) (h0 : ∀ x, x ∈ xs → 0 ≤ x ∧ x < n) (hl : xs.length ≤ 1000) : sem_is_lot [.fz (lot xs), .fz (.int n)] = .val (.bl true) [.no, .no] := by
  have hs : xs.length ≤ sizeLine := sl16 (by omega)
  refine fn_eq ?_
  unfold lot
  walk_at "go body_is_lot"
  refine lc_fun (k := D.int) hs (fun _ => .bl true) (fun x hx => ?_) ?_
  · have e1 := e_is_between x 0 (n - 1)
    have := h0 x hx
    rw [decide_eq_true (by omega), decide_eq_true (by omega)] at e1
    walk_at "go e1"
  · have e4 : oAll [.lst (xs.map fun _ => .bl true)] = some (.bl true) := by rw [oAll_map]; simp
    walk_at "go e4 drop_map' zipD_map"
    have hz : (xs.zip (xs.drop 1)).length ≤ sizeLine := by rw [List.length_zip]; omega
    refine lc_fun (k := fun p : Int × Int => D.tup [.int p.1, .int p.2]) hz (fun p => .bl (decide (p.1 < p.2))) (fun p hp => ?_) ?_
    · walk_at "go"
    · have e5 : oAll [.lst ((xs.zip (xs.drop 1)).map fun p => .bl (decide (p.1 < p.2)))] = some (.bl true) := by rw [oAll_map, up_zip h]
      walk_at "go e5"
theorem e_is_order {many : Int} {xs : List Int} (h0 : ∀ x, x ∈ xs → 0 ≤ x ∧ x < many) (hl : 1 ≤ xs.length) (hl : xs.length ≤ 40) : sem_is_order [.fz (.int many), .fz (lot xs)] = .val (.bl true) [.no, .no] := by
  have hs : xs.length ≤ sizeLine := sl16 (by omega)
  have e2 := e_is_sized (xs.map .int) 1 40 (by rw [List.length_map]; exact hs)
  rw [decide_eq_true (by rw [List.length_map]; omega), decide_eq_true (by rw [List.length_map]; omega)] at e2
  refine fn_eq ?_
  unfold lot
  walk_at "go body_is_order e2"
  refine lc_fun (k := D.int) hs (fun _ => .bl true) (fun x hx => ?_) ?_
  · have e1 := e_is_between x 0 (many - 1)
    have := h0 x hx
    rw [decide_eq_true (by omega), decide_eq_true (by omega)] at e1
    walk_at "go e1"
  · have e4 : oAll [.lst (xs.map fun _ => .bl true)] = some (.bl true) := by rw [oAll_map]; simp
    walk_at "go e4"

/-! ## what is known -/
def look (f : List (Option Int)) (i : Int) : Option Int := (f[i.toNat]?).join
def stp (bar : List Int) (n : Nat) (l : L3) (f : List (Option Int)) : List (Option Int) :=
  if (n : Int) ∈ bar then f else match look f l.1 with
  | none => f
  | some v => if v ≤ l.2.2 then (match look f l.2.1 with
    | none => f.set l.2.1.toNat (some (l.2.2 + 1))
    | some _ => f) else f
def spr (bar : List Int) : Nat → List L3 → List (Option Int) → List (Option Int)
  | _, [], f => f
  | n, l :: r, f => spr bar (n + 1) r (stp bar n l f)
def sp0 (many house beat : Int) : List (Option Int) := (List.replicate many.toNat none).set house.toNat (some beat)
def sprd (many : Int) (ls : List L3) (bar : List Int) (house beat : Int) : List (Option Int) := spr bar 0 ls (sp0 many house beat)
theorem stp_len {bar : List Int} {n : Nat} {l : L3} {f : List (Option Int)} : (stp bar n l f).length = f.length := by
  unfold stp; split
  · rfl
  · split
    · rfl
    · split
      · split
        · simp
        · rfl
      · rfl
theorem spr_len {bar : List Int} : ∀ {n : Nat} {ls : List L3} {f : List (Option Int)}, (spr bar n ls f).length = f.length
  | _, [], _ => rfl
  | n, l :: r, f => by rw [spr, spr_len, stp_len]
theorem sprd_len {many : Int} {ls : List L3} {bar : List Int} {h b : Int} : (sprd many ls bar h b).length = many.toNat := by
  unfold sprd sp0; rw [spr_len]; simp
theorem look_some {f : List (Option Int)} {i : Int} {v : Option Int} (h : f[i.toNat]? = some v) : look f i = v := by unfold look; rw [h]; rfl
theorem e_rep {many : Int} (h0 : 0 ≤ many) (h1 : many ≤ 1000) : oRep (.lst [.non]) (.int many) = some (.lst ((List.replicate many.toNat none).map oD)) := by
  have hs : many.toNat ≤ sizeLine := sl16 (by omega)
  unfold oRep
  simp only
  rw [if_pos ⟨⟨by omega, by omega⟩, by simpa using hs⟩, rep_flat]
  simp [oD]
theorem e_known {many : Int} {ls : List L3} {bar : List Int} {house beat : Int} (h : SchOk many ls) (h0 : 0 ≤ house) (h1 : house < many) :
    sem_known [.fz (schD many ls), .fz (.int house), .fz (.int beat), .fz (lot bar)] = .val (.lst ((sprd many ls bar house beat).map oD)) [.no, .no, .no, .no] := by
  have m0 := h.m0
  have m1 := h.m1
  have er := e_rep (many := many) (by omega) (by omega)
  have i0 : ixN ((List.replicate many.toNat (none : Option Int)).map oD).length house = some house.toNat := ixN_pos h0 (by simp; omega)
  have sm : ((List.replicate many.toNat (none : Option Int)).map oD).set house.toNat (.int beat) = (sp0 many house beat).map oD := set_map' (x := some beat) rfl
  refine fn_eq ?_
  unfold schD lot
  walk_at "go body_known lk_many lk_letters er i0 sm"
  refine for_enum (fun n r E => ∃ f s5 s6 s7 s8, E = [.fz (.ins 0 ["many", "letters"] [.int many, .tup (ls.map lD)]), .fz (.int house), .fz (.int beat), .fz (.tup (bar.map .int)), .own (.lst (f.map oD)), s5, s6, s7, s8] ∧
    f.length = many.toNat ∧ spr bar n r f = sprd many ls bar house beat ∧ (∀ v, some v ∈ f → beat ≤ v) ∧ (∀ v, some v ∈ f → v = beat ∨ ∀ l, l ∈ r → v ≤ l.2.2 + 1) ∧ Rises r ∧ ∀ l, l ∈ r → LetOk many l) ?_ ?_ ?_
  · refine ⟨sp0 many house beat, _, _, _, _, rfl, by simp [sp0], rfl, fun v hv => ?_, fun v hv => ?_, h.up, h.ok⟩
    · rcases List.mem_or_eq_of_mem_set hv with z | z
      · have := List.eq_of_mem_replicate z; cases this
      · cases z; omega
    · rcases List.mem_or_eq_of_mem_set hv with z | z
      · have := List.eq_of_mem_replicate z; cases this
      · cases z; exact .inl rfl
  · rintro n x r E ⟨f, s5, s6, s7, s8, rfl, fl, e, i1, i2, up, ok⟩
    obtain ⟨a, b, t⟩ := x
    obtain ⟨a0, a1, b0, b1, ne, t0, t1⟩ := ok _ (List.mem_cons_self ..)
    simp only at a0 a1 b0 b1 ne t0 t1
    obtain ⟨v, hv⟩ : ∃ v, f[a.toNat]? = some v := ⟨_, List.getElem?_eq_getElem (by omega)⟩
    obtain ⟨w, hw⟩ : ∃ w, f[b.toNat]? = some w := ⟨_, List.getElem?_eq_getElem (by omega)⟩
    have ev : atI (f.map oD) a = some (oD v) := atI_map a0 hv
    have ew : atI (f.map oD) b = some (oD w) := atI_map b0 hw
    have ix : ixN (f.map oD).length b = some b.toNat := ixN_pos b0 (by simp; omega)
    have ni := Enc.oNotInT Enc.int (by omega) (n : Int) bar
    have st : (f.map oD).set b.toNat (.int (t + 1)) = (f.set b.toNat (some (t + 1))).map oD := set_map' (x := some (t + 1)) rfl
    have up2 := List.pairwise_cons.mp up
    have keep : stp bar n (a, b, t) f = f → ∀ s5 s6 s7 s8, ∃ f' u5 u6 u7 u8, [Sl.fz (.ins 0 ["many", "letters"] [.int many, .tup (ls.map lD)]), .fz (.int house), .fz (.int beat), .fz (.tup (bar.map .int)), .own (.lst (f.map oD)), s5, s6, s7, s8] = [Sl.fz (.ins 0 ["many", "letters"] [.int many, .tup (ls.map lD)]), .fz (.int house), .fz (.int beat), .fz (.tup (bar.map .int)), .own (.lst (f'.map oD)), u5, u6, u7, u8] ∧
        f'.length = many.toNat ∧ spr bar (n + 1) r f' = sprd many ls bar house beat ∧ (∀ v, some v ∈ f' → beat ≤ v) ∧ (∀ v, some v ∈ f' → v = beat ∨ ∀ l, l ∈ r → v ≤ l.2.2 + 1) ∧ Rises r ∧ ∀ l, l ∈ r → LetOk many l := fun z s5 s6 s7 s8 => by
      rw [spr, z] at e
      exact ⟨f, _, _, _, _, rfl, fl, e, i1, fun v hv => (i2 v hv).imp id fun q l hl => q l (List.mem_cons_of_mem _ hl), up2.2, fun l hl => ok l (List.mem_cons_of_mem _ hl)⟩
    by_cases hb : (n : Int) ∈ bar
    · simp only [hb, decide_true] at ni
      walk_at "go ni"
      exact keep (by unfold stp; rw [if_pos hb]) _ _ _ _
    simp only [hb, decide_false] at ni
    cases v with
    | none =>
      walk_at "go ni ev oD"
      exact keep (by unfold stp; rw [if_neg hb, look_some hv]) _ _ _ _
    | some v =>
      by_cases hvt : v ≤ t
      · cases w with
        | none =>
          walk_at "go ni ev ew oD hvt ix st"
          have es : stp bar n (a, b, t) f = f.set b.toNat (some (t + 1)) := by unfold stp; rw [if_neg hb, look_some hv]; simp only [if_pos hvt, look_some hw]
          rw [spr, es] at e
          refine ⟨_, _, _, _, _, rfl, by simpa using fl, e, fun u hu => ?_, fun u hu => ?_, up2.2, fun l hl => ok l (List.mem_cons_of_mem _ hl)⟩
          · rcases List.mem_or_eq_of_mem_set hu with z | z
            · exact i1 u z
            · cases z
              have := i1 v (List.mem_of_getElem? hv)
              omega
          · rcases List.mem_or_eq_of_mem_set hu with z | z
            · exact (i2 u z).imp id fun q l hl => q l (List.mem_cons_of_mem _ hl)
            · cases z
              refine .inr fun l hl => ?_
              have := up2.1 l hl
              simp only at this
              omega
        | some w =>
          have gt : ¬ t + 1 < w := by
            have := i1 v (List.mem_of_getElem? hv)
            rcases i2 w (List.mem_of_getElem? hw) with z | z
            · omega
            · have := z _ (List.mem_cons_self ..); simp only at this; omega
          walk_at "go ni ev ew oD hvt gt"
          exact keep (by unfold stp; rw [if_neg hb, look_some hv]; simp only [if_pos hvt, look_some hw]) _ _ _ _
      · walk_at "go ni ev oD hvt"
        exact keep (by unfold stp; rw [if_neg hb, look_some hv]; simp only [if_neg hvt]) _ _ _ _
  · rintro n E ⟨f, s5, s6, s7, s8, rfl, fl, e, i1, i2, up, ok⟩
    walk_at "go"
    rw [spr] at e
    rw [e]
theorem e_check_house {many : Int} {ls : List L3} {house : Int} (h0 : 0 ≤ house) (h1 : house < many) : sem_check_house [.fz (schD many ls), .fz (.int house)] = .val .non [.no, .no] := by
  have e1 := e_is_between house 0 (many - 1)
  rw [decide_eq_true (by omega), decide_eq_true (by omega)] at e1
  refine fn_eq ?_
  unfold schD
  walk_at "go body_check_house lk_many e1"
theorem e_check_lot {many : Int} {ls : List L3} {bar : List Int} (h : Up bar) (h0 : ∀ x, x ∈ bar → 0 ≤ x ∧ x < ls.length) (hl : bar.length ≤ 1000) (hl2 : ls.length ≤ 1000) : sem_check_lot [.fz (schD many ls), .fz (lot bar)] = .val .non [.no, .no] := by
  have e1 := e_is_lot h h0 hl
  refine fn_eq ?_
  unfold schD
  have hs : (ls.map lD).length ≤ sizeLine := by rw [List.length_map]; exact sl16 (by omega)
  rw [← List.length_map (f := lD)] at e1
  walk_at "go body_check_lot lk_letters e1 hs"
theorem e_check_order {many : Int} {xs : List Int} (h0 : ∀ x, x ∈ xs → 0 ≤ x ∧ x < many) (hl : 1 ≤ xs.length) (hl2 : xs.length ≤ 40) : sem_check_order [.fz (.int many), .fz (lot xs)] = .val .non [.no, .no] := by
  have e1 := e_is_order h0 hl hl2
  refine fn_eq ?_
  walk_at "go body_check_order e1"
structure BarOk (ls : List L3) (bar : List Int) : Prop where
  up : Up bar
  lt : ∀ x, x ∈ bar → 0 ≤ x ∧ x < ls.length
  le : bar.length ≤ 1000
def tupO (f : List (Option Int)) : D := .tup (f.map oD)
theorem e_spread {many : Int} {ls : List L3} {bar : List Int} {house beat : Int} (h : SchOk many ls) (hb : BarOk ls bar) (h0 : 0 ≤ house) (h1 : house < many) (h2 : 0 ≤ beat) :
    sem_spread [.fz (schD many ls), .fz (.int house), .fz (.int beat), .fz (lot bar)] = .val (tupO (sprd many ls bar house beat)) [.no, .no, .no, .no] := by
  have e1 := e_check_house (ls := ls) h0 h1
  have e2 := e_is_number beat
  have e3 := e_check_lot (many := many) hb.up hb.lt hb.le (by have := h.le; omega)
  have e4 := e_known (bar := bar) (beat := beat) h h0 h1
  rw [decide_eq_true h2] at e2
  refine fn_eq ?_
  walk_at "go body_spread e1 e2 e3 e4 tupO"
/-- what the owner of each next word can know -/
def soon (many : Int) (ls : List L3) (bar : List Int) : List (Int × Int) → Int → Option Int
  | [], b => some b
  | p :: r, b => match look (sprd many ls bar p.1 b) p.2 with
    | none => none
    | some b' => soon many ls bar r b'
def prs (xs : List Int) (n : Nat) : List (Int × Int) := (xs.take n).zip ((xs.take (n + 1)).drop 1)
theorem prs_get {xs : List Int} {n i : Nat} (h : n < xs.length) (hi : i < n) : ∃ a b, xs[i]? = some a ∧ xs[i + 1]? = some b ∧ (prs xs n)[i]? = some (a, b) := by
  refine ⟨xs[i], xs[i + 1], List.getElem?_eq_getElem _, List.getElem?_eq_getElem _, ?_⟩
  unfold prs
  rw [List.getElem?_zip_eq_some]
  refine ⟨by rw [List.getElem?_take_of_lt hi, List.getElem?_eq_getElem (by omega)], ?_⟩
  rw [List.getElem?_drop, List.getElem?_take_of_lt (by omega), Nat.add_comm 1 i, List.getElem?_eq_getElem (by omega)]
theorem prs_len {xs : List Int} {n : Nat} (h : n < xs.length) : (prs xs n).length = n := by
  unfold prs; rw [List.length_zip, List.length_drop, List.length_take, List.length_take]; omega
theorem prs_mem {xs : List Int} {n : Nat} {p : Int × Int} (h : p ∈ prs xs n) : p.1 ∈ xs ∧ p.2 ∈ xs := by
  have := List.of_mem_zip (show (p.1, p.2) ∈ _ from h)
  exact ⟨List.mem_of_mem_take this.1, List.mem_of_mem_take (List.mem_of_mem_drop this.2)⟩
theorem look_get {many : Int} {ls : List L3} {bar : List Int} {h b i : Int} (h0 : 0 ≤ i) (h1 : i < many) : ∃ v, (sprd many ls bar h b)[i.toNat]? = some v ∧ look (sprd many ls bar h b) i = v := by
  obtain ⟨v, hv⟩ : ∃ v, (sprd many ls bar h b)[i.toNat]? = some v := ⟨_, List.getElem?_eq_getElem (by rw [sprd_len]; omega)⟩
  exact ⟨v, hv, look_some hv⟩
theorem e_soonest {many : Int} {ls : List L3} {bar xs : List Int} {i : Int} (h : SchOk many ls) (hx : ∀ x, x ∈ xs → 0 ≤ x ∧ x < many) (h0 : 0 ≤ i) (h1 : i < xs.length) :
    sem_soonest [.fz (schD many ls), .fz (lot xs), .fz (.int i), .fz (lot bar)] = .val (oD (soon many ls bar (prs xs i.toNat) 0)) [.no, .no, .no, .no] := by
  have h2 : 0 ≤ i + 1 := by omega
  refine fn_eq ?_
  unfold lot
  walk_at "go body_soonest h0 h2 take_map' drop_map' zipD_map"
  refine for_maps (f := fun p : Int × Int => D.tup [.int p.1, .int p.2]) (fun r E => ∃ b s5 s6, E = [.fz (schD many ls), .fz (.tup (xs.map .int)), .fz (.int i), .fz (.tup (bar.map .int)), .fz (.int b), s5, s6] ∧
    soon many ls bar r b = soon many ls bar (prs xs i.toNat) 0 ∧ ∀ p, p ∈ r → p.1 ∈ xs ∧ p.2 ∈ xs) ?_ ?_ ?_
  · refine ⟨0, _, _, rfl, ?_, fun p hp => ?_⟩
    · unfold prs
      rw [show (i + 1).toNat = i.toNat + 1 by omega]
    · refine prs_mem (n := i.toNat) ?_
      unfold prs
      rw [show (i + 1).toNat = i.toNat + 1 by omega] at hp
      exact hp
  · rintro ⟨one, other⟩ r E ⟨b, s5, s6, rfl, e, hp⟩
    have hm := hp _ (List.mem_cons_self ..)
    have ha := hx _ hm.1
    have hb := hx _ hm.2
    have e1 := e_known (bar := bar) (beat := b) h ha.1 ha.2
    obtain ⟨v, hv, lv⟩ := look_get (many := many) (ls := ls) (bar := bar) (h := one) (b := b) hb.1 hb.2
    have ev := atI_map (f := oD) hb.1 hv
    rw [soon] at e
    simp only [lv] at e
    unfold lot at e1
    cases v with
    | none =>
      walk_at "go e1 ev oD"
      simp only at e
      rw [← e]; try rfl
    | some v =>
      walk_at "go e1 ev oD"
      exact ⟨v, _, _, rfl, e, fun p hq => hp p (List.mem_cons_of_mem _ hq)⟩
  · rintro E ⟨b, s5, s6, rfl, e, hp⟩
    walk_at "go"
    rw [← e]; try rfl
theorem e_earliest {many : Int} {ls : List L3} {bar xs : List Int} {i : Int} (h : SchOk many ls) (hb : BarOk ls bar) (hx : ∀ x, x ∈ xs → 0 ≤ x ∧ x < many) (hl : xs.length ≤ 40) (h0 : 0 ≤ i) (h1 : i < xs.length) :
    sem_earliest [.fz (schD many ls), .fz (lot xs), .fz (.int i), .fz (lot bar)] = .val (oD (soon many ls bar (prs xs i.toNat) 0)) [.no, .no, .no, .no] := by
  have e1 := e_soonest (bar := bar) h hx h0 h1
  have e2 := e_check_order hx (by omega) hl
  have e3 := e_is_between i 0 (xs.length - 1)
  have e4 := e_check_lot (many := many) hb.up hb.lt hb.le (by have := h.le; omega)
  have hs : (xs.map D.int).length ≤ sizeLine := by rw [List.length_map]; exact sl16 (by omega)
  rw [decide_eq_true (by omega), decide_eq_true (by omega)] at e3
  refine fn_eq ?_
  unfold schD lot at *
  rw [← List.length_map (f := D.int)] at e3
  walk_at "go body_earliest lk_many e1 e2 e3 e4 hs"


/-! ## the law's own -/
theorem drop_get {α : Type} {xs : List α} {i : Nat} (h : i < xs.length) : ∃ x, xs[i]? = some x ∧ xs.drop i = x :: xs.drop (i + 1) := ⟨xs[i], List.getElem?_eq_getElem h, List.drop_eq_getElem_cons h⟩
theorem rng_ok {n : Nat} (h : n ≤ 1000000) : -4611686018427387904 ≤ (n : Int) ∧ (n : Int) < 4611686018427387904 := by omega
theorem e_lspread {many : Int} {ls : List L3} {bar : List Int} {house beat : Int} (h : SchOk many ls) (h0 : 0 ≤ house) (h1 : house < many) :
    sem__law_spread [.fz (.tup (ls.map lD)), .fz (.int many), .fz (.int house), .fz (.int beat), .fz (lot bar)] = .val (tupO (sprd many ls bar house beat)) [.no, .no, .no, .no, .no] := by
  have m0 := h.m0
  have m1 := h.m1
  have hl := h.le
  have hs : (ls.map lD).length ≤ sizeLine := by rw [List.length_map]; exact sl16 (by omega)
  have er := e_rep (many := many) (by omega) (by omega)
  have i0 : ixN ((List.replicate many.toNat (none : Option Int)).map oD).length house = some house.toNat := ixN_pos h0 (by simp; omega)
  have sm : ((List.replicate many.toNat (none : Option Int)).map oD).set house.toNat (.int beat) = (sp0 many house beat).map oD := set_map' (x := some beat) rfl
  have hn := itR_nat (n := (ls.map lD).length) (by rw [List.length_map]; omega)
  refine fn_eq ?_
  unfold lot
  walk_at "go body__law_spread er i0 sm hs hn Int.toNat_natCast"
  clear hn
  refine for_rng (fun n E => ∃ f s6 s7 s8 s9, E = [.fz (.tup (ls.map lD)), .fz (.int many), .fz (.int house), .fz (.int beat), .fz (.tup (bar.map .int)), .own (.lst (f.map oD)), s6, s7, s8, s9] ∧
    f.length = many.toNat ∧ spr bar n (ls.drop n) f = sprd many ls bar house beat) ?_ ?_ ?_
  · exact ⟨sp0 many house beat, _, _, _, _, rfl, by simp [sp0], rfl⟩
  · rintro n E hn ⟨f, s6, s7, s8, s9, rfl, fl, e⟩
    rw [List.length_map] at hn
    obtain ⟨⟨a, b, t⟩, hx, hd⟩ := drop_get hn
    obtain ⟨a0, a1, b0, b1, ne, t0, t1⟩ := h.ok _ (List.mem_of_getElem? hx)
    simp only at a0 a1 b0 b1 ne t0 t1
    obtain ⟨v, hv⟩ : ∃ v, f[a.toNat]? = some v := ⟨_, List.getElem?_eq_getElem (by omega)⟩
    obtain ⟨w, hw⟩ : ∃ w, f[b.toNat]? = some w := ⟨_, List.getElem?_eq_getElem (by omega)⟩
    have ex : atI (ls.map lD) (n : Int) = some (lD (a, b, t)) := atI_map (by omega) (by simpa using hx)
    have ev : atI (f.map oD) a = some (oD v) := atI_map a0 hv
    have ew : atI (f.map oD) b = some (oD w) := atI_map b0 hw
    have ix : ixN (f.map oD).length b = some b.toNat := ixN_pos b0 (by simp; omega)
    have ni := Enc.oNotInT Enc.int (by omega) (n : Int) bar
    have st : (f.map oD).set b.toNat (.int (t + 1)) = (f.set b.toNat (some (t + 1))).map oD := set_map' (x := some (t + 1)) rfl
    rw [hd, spr] at e
    have keep : stp bar n (a, b, t) f = f → ∀ s6 s7 s8 s9, ∃ f' u6 u7 u8 u9, [Sl.fz (.tup (ls.map lD)), .fz (.int many), .fz (.int house), .fz (.int beat), .fz (.tup (bar.map .int)), .own (.lst (f.map oD)), s6, s7, s8, s9] = [Sl.fz (.tup (ls.map lD)), .fz (.int many), .fz (.int house), .fz (.int beat), .fz (.tup (bar.map .int)), .own (.lst (f'.map oD)), u6, u7, u8, u9] ∧
        f'.length = many.toNat ∧ spr bar (n + 1) (ls.drop (n + 1)) f' = sprd many ls bar house beat := fun z s6 s7 s8 s9 => by
      rw [z] at e
      exact ⟨f, _, _, _, _, rfl, fl, e⟩
    by_cases hb : (n : Int) ∈ bar
    · simp only [hb, decide_true] at ni
      walk_at "go ni ex"
      exact keep (by unfold stp; rw [if_pos hb]) _ _ _ _
    simp only [hb, decide_false] at ni
    cases v with
    | none =>
      walk_at "go ni ex ev oD"
      exact keep (by unfold stp; rw [if_neg hb, look_some hv]) _ _ _ _
    | some v =>
      by_cases hvt : v ≤ t
      · cases w with
        | none =>
          walk_at "go ni ex ev ew oD hvt ix st"
          have es : stp bar n (a, b, t) f = f.set b.toNat (some (t + 1)) := by unfold stp; rw [if_neg hb, look_some hv]; simp only [if_pos hvt, look_some hw]
          rw [es] at e
          exact ⟨_, _, _, _, _, rfl, by simpa using fl, e⟩
        | some w =>
          walk_at "go ni ex ev ew oD hvt"
          exact keep (by unfold stp; rw [if_neg hb, look_some hv]; simp only [if_pos hvt, look_some hw]) _ _ _ _
      · walk_at "go ni ex ev oD hvt"
        exact keep (by unfold stp; rw [if_neg hb, look_some hv]; simp only [if_neg hvt]) _ _ _ _
  · rintro E ⟨f, s6, s7, s8, s9, rfl, fl, e⟩
    walk_at "go"
    rw [List.length_map, List.drop_length, spr] at e
    rw [e]; try rfl

theorem e_learliest {many : Int} {ls : List L3} {bar xs : List Int} {i : Int} (h : SchOk many ls) (hx : ∀ x, x ∈ xs → 0 ≤ x ∧ x < many) (hl : xs.length ≤ 40) (h0 : 0 ≤ i) (h1 : i < xs.length) :
    sem__law_earliest [.fz (.tup (ls.map lD)), .fz (.int many), .fz (lot xs), .fz (.int i), .fz (lot bar)] = .val (oD (soon many ls bar (prs xs i.toNat) 0)) [.no, .no, .no, .no, .no] := by
  have hn := itR_two (i := 1) (j := i + 1) (by omega) (by omega) (by omega) (by omega)
  rw [show i + 1 - 1 = i by omega] at hn
  refine fn_eq ?_
  unfold lot
  walk_at "go body__law_earliest hn"
  refine for_rng (fun n E => ∃ b s6, E = [.fz (.tup (ls.map lD)), .fz (.int many), .fz (.tup (xs.map .int)), .fz (.int i), .fz (.tup (bar.map .int)), .fz (.int b), s6] ∧
    soon many ls bar ((prs xs i.toNat).drop n) b = soon many ls bar (prs xs i.toNat) 0) ?_ ?_ ?_
  · exact ⟨0, _, rfl, rfl⟩
  · rintro n E hn ⟨b, s6, rfl, e⟩
    obtain ⟨one, other, x1, x2, x3⟩ := prs_get (xs := xs) (n := i.toNat) (i := n) (by omega) hn
    have ha := hx _ (List.mem_of_getElem? x1)
    have hb := hx _ (List.mem_of_getElem? x2)
    have hd : (prs xs i.toNat).drop n = (one, other) :: (prs xs i.toNat).drop (n + 1) := by
      obtain ⟨p, q1, q2⟩ := drop_get (xs := prs xs i.toNat) (i := n) (by rw [prs_len (by omega)]; exact hn)
      rw [x3] at q1; cases q1; exact q2
    have g1 : atI (xs.map D.int) (1 + (n : Int) - 1) = some (.int one) := by rw [show 1 + (n : Int) - 1 = (n : Int) by omega]; exact atI_map (by omega) (by simpa using x1)
    have g2 : atI (xs.map D.int) (1 + (n : Int)) = some (.int other) := atI_map (by omega) (by rw [show (1 + (n : Int)).toNat = n + 1 by omega]; exact x2)
    have e1 := e_lspread (bar := bar) (beat := b) h ha.1 ha.2
    obtain ⟨v, hv, lv⟩ := look_get (many := many) (ls := ls) (bar := bar) (h := one) (b := b) hb.1 hb.2
    have ev := atI_map (f := oD) hb.1 hv
    rw [hd, soon] at e
    simp only [lv] at e
    unfold lot tupO at e1
    cases v with
    | none =>
      walk_at "go e1 ev g1 g2 oD"
      simp only at e
      rw [← e]; try rfl
    | some v =>
      walk_at "go e1 ev g1 g2 oD"
      exact ⟨v, _, rfl, e⟩
  · rintro E ⟨b, s6, rfl, e⟩
    walk_at "go"
    rw [List.drop_eq_nil_of_le (by rw [prs_len (by omega)]; omega)] at e
    rw [← e]; try rfl
theorem e_is_o {o : Option Int} (n : Nat) : sem__law_is (n + 1) [.fz (oD o), .fz (oD o)] = .val (.bl true) [.no, .no] := by
  have e := Enc.opt.eq (by omega) o o
  simp only [decide_true] at e
  rw [sem__law_is]
  refine fn_eq ?_
  cases o with
  | none =>
    simp only [oD] at e ⊢
    walk_at "go body__law_is e"
  | some o =>
    simp only [oD] at e ⊢
    have e2 : (o == o) = true := by simp
    walk_at "go body__law_is e2"
theorem zip_self {α : Type} : ∀ xs : List α, xs.zip xs = xs.map fun x => (x, x)
  | [] => rfl
  | x :: xs => by rw [List.zip_cons_cons, zip_self xs, List.map_cons]
theorem e_is_t {f : List (Option Int)} (hl : f.length ≤ 1000) (n : Nat) : sem__law_is (n + 2) [.fz (tupO f), .fz (tupO f)] = .val (.bl true) [.no, .no] := by
  have hs : f.length ≤ sizeLine := sl16 (by omega)
  have hs2 : (f.map oD).length ≤ sizeLine := by rw [List.length_map]; exact hs
  have ez : zipD (f.map oD) (f.map oD) = f.map fun o => D.tup [oD o, oD o] := by rw [zipD_map, zip_self, List.map_map]; rfl
  rw [sem__law_is]
  refine fn_eq ?_
  unfold tupO
  have e2 : ((f.map oD).length : Int) == ((f.map oD).length : Int) := by simp
  walk_at "go body__law_is hs2 e2 ez"
  refine lc_fun (k := fun o => D.tup [oD o, oD o]) hs (fun _ => .bl true) (fun o _ => ?_) ?_
  · have e := e_is_o (o := o) n
    walk_at "go e"
  · have e4 : oAll [.lst (f.map fun _ => .bl true)] = some (.bl true) := by rw [oAll_map]; simp
    walk_at "go e4"
/-! ## what the law draws -/
theorem ne_mod {a r m : Int} (a0 : 0 ≤ a) (a1 : a < m) (r0 : 0 ≤ r) (r1 : r < m - 1) : 0 ≤ (a + 1 + r) % m ∧ (a + 1 + r) % m < m ∧ a ≠ (a + 1 + r) % m := by
  refine ⟨Int.emod_nonneg _ (by omega), Int.emod_lt_of_pos _ (by omega), ?_⟩
  by_cases h : a + 1 + r < m
  · rw [Int.emod_eq_of_lt (by omega) h]; omega
  · have : (a + 1 + r) % m = a + 1 + r - m := by
      rw [← Int.sub_emod_right (a + 1 + r) m]
      exact Int.emod_eq_of_lt (by omega) (by omega)
    rw [this]; omega
theorem not_in3 {a b c : Int} {ls : List L3} : oNotIn (.tup [.int a, .int b, .int c]) (.lst (ls.map lD)) = some (.bl (!decide ((a, b, c) ∈ ls))) := by
  have := Enc.oNotInL Enc.l3 (by omega) (a, b, c) ls
  unfold lD at this ⊢
  rw [this]
  congr
theorem e_letters {h : D} {k : Nat} {many most : Int} (hh : HandD h) (m0 : 2 ≤ many) (m1 : many ≤ 8) (k0 : 0 ≤ most) (k1 : most ≤ 60) :
    wpF (sem__law_letters [.bor k h, .fz (.int many), .fz (.int most)]) (fun d bs => ∃ ls h', d = .tup (ls.map lD) ∧ bs = [.bor k h', .no, .no] ∧ HandD h' ∧ SchOk many ls) := by
  have l6 : (6 : Nat) ≤ sizeLine := sl16 (by omega)
  have l4 : (4 : Nat) ≤ sizeLine := sl16 (by omega)
  have l5 : (5 : Nat) ≤ sizeLine := sl16 (by omega)
  have l3 : (3 : Nat) ≤ sizeLine := sl16 (by omega)
  have l0 : (0 : Nat) ≤ sizeLine := sl16 (by omega)
  have hr := itR_int (j := most) (by omega) (by omega)
  refine fn_run ?_
  walk_at "go body__law_letters l0 l6"
  refine call_by (some_ok hh (by simp) (by simp)) ?_
  rintro d bs ⟨h1, d1, rfl, hh1⟩
  obtain ⟨beat, rfl, b0, b1⟩ : ∃ b : Int, d = .int b ∧ 0 ≤ b ∧ b ≤ 999 := by
    simp only [List.mem_cons, List.not_mem_nil, or_false] at d1
    rcases d1 with rfl | rfl | rfl | rfl | rfl | rfl <;> exact ⟨_, rfl, by omega, by omega⟩
  walk_at "go l4"
  refine call_by (some_ok hh1 (by simp) (by simp)) ?_
  rintro d bs ⟨h2, d2, rfl, hh2⟩
  obtain ⟨near, rfl, n0, n1⟩ : ∃ b : Int, d = .int b ∧ 0 ≤ b ∧ b ≤ 30 := by
    simp only [List.mem_cons, List.not_mem_nil, or_false] at d2
    rcases d2 with rfl | rfl | rfl | rfl <;> exact ⟨_, rfl, by omega, by omega⟩
  walk_at "go l4"
  refine call_by (some_ok hh2 (by simp) (by simp)) ?_
  rintro d bs ⟨h3, d3, rfl, hh3⟩
  obtain ⟨quick, rfl, q0, q1⟩ : ∃ b : Int, d = .int b ∧ 0 ≤ b ∧ b ≤ 30 := by
    simp only [List.mem_cons, List.not_mem_nil, or_false] at d3
    rcases d3 with rfl | rfl | rfl | rfl <;> exact ⟨_, rfl, by omega, by omega⟩
  walk_at "go l5"
  refine call_by (some_ok hh3 (by simp) (by simp)) ?_
  rintro d bs ⟨h4, d4, rfl, hh4⟩
  obtain ⟨tilt, rfl⟩ : ∃ b : Int, d = .int b := by
    simp only [List.mem_cons, List.not_mem_nil, or_false] at d4
    rcases d4 with rfl | rfl | rfl | rfl | rfl <;> exact ⟨_, rfl⟩
  walk_at "go"
  refine call_by (draw_ok hh4 (by omega) (by omega)) ?_
  rintro d bs ⟨here, h5, rfl, rfl, hh5, e0, e1⟩
  walk_at "go hr"
  refine for_rng (fun n E => ∃ h ls beat here s9 s10 s11, E = [.bor k h, .fz (.int many), .fz (.int most), .own (.lst (ls.map lD)), .fz (.int beat), .fz (.int near), .fz (.int quick), .fz (.int tilt), .fz (.int here), s9, s10, s11] ∧
    HandD h ∧ 0 ≤ beat ∧ beat ≤ 999 ∧ 0 ≤ here ∧ here < many ∧ ls.length ≤ n ∧ (∀ l, l ∈ ls → LetOk many l ∧ l.2.2 ≤ beat) ∧ Rises ls ∧ ls.Nodup) ?_ ?_ ?_
  · exact ⟨h5, [], beat, here, _, _, _, rfl, hh5, b0, b1, e0, e1, Nat.le_refl _, fun l hl => by simp at hl, List.Pairwise.nil, List.Pairwise.nil⟩
  · clear hh hh1 hh2 hh3 hh4 hh5 b0 b1 e0 e1
    rintro n E hn ⟨h, ls, beat, here, s9, s10, s11, rfl, hh, b0, b1, e0, e1, hl, ok, up, nd⟩
    walk_at "tgt"
    refine seq_cut (fun E => ∃ h b, E = [.bor k h, .fz (.int many), .fz (.int most), .own (.lst (ls.map lD)), .fz (.int b), .fz (.int near), .fz (.int quick), .fz (.int tilt), .fz (.int here), .fz (.int n), s10, s11] ∧ HandD h ∧ beat ≤ b ∧ b ≤ 999) ?_ ?_
    · walk_at "go"
      refine call_by (draw_ok hh (by omega) (by omega)) ?_
      rintro d bs ⟨r, h1, rfl, rfl, hh1, r0, r1⟩
      walk_at "go"
      · refine call_by (draw_ok hh1 (by omega) (by omega)) ?_
        rintro d bs ⟨r, h1, rfl, rfl, hh1, r0, r1⟩
        walk_at "go"
        refine ⟨_, _, rfl, hh1, ?_, ?_⟩ <;> split <;> omega
      · exact ⟨_, _, rfl, hh1, by omega, by omega⟩
    clear hh
    rintro E ⟨h, b, rfl, hh, bb, b9⟩
    refine seq_cut (fun E => ∃ h one, E = [.bor k h, .fz (.int many), .fz (.int most), .own (.lst (ls.map lD)), .fz (.int b), .fz (.int near), .fz (.int quick), .fz (.int tilt), .fz (.int here), .fz (.int n), .fz (.int one), s11] ∧ HandD h ∧ 0 ≤ one ∧ one < many) ?_ ?_
    · walk_at "go"
      refine call_by (draw_ok hh (by omega) (by omega)) ?_
      rintro d bs ⟨r, h1, rfl, rfl, hh1, r0, r1⟩
      walk_at "go"
      · exact ⟨_, _, rfl, hh1, by omega, by omega⟩
      · refine call_by (draw_ok hh1 (by omega) (by omega)) ?_
        rintro d bs ⟨r, h1, rfl, rfl, hh1, r0, r1⟩
        walk_at "go"
        exact ⟨_, _, rfl, hh1, by omega, by omega⟩
    clear hh
    rintro E ⟨h, one, rfl, hh, o0, o1⟩
    refine seq_cut (fun E => ∃ h other, E = [.bor k h, .fz (.int many), .fz (.int most), .own (.lst (ls.map lD)), .fz (.int b), .fz (.int near), .fz (.int quick), .fz (.int tilt), .fz (.int here), .fz (.int n), .fz (.int one), .fz (.int other)] ∧ HandD h ∧ 0 ≤ other ∧ other < many ∧ one ≠ other) ?_ ?_
    · walk_at "go"
      refine call_by (draw_ok hh (by omega) (by omega)) ?_
      rintro d bs ⟨r, h1, rfl, rfl, hh1, r0, r1⟩
      walk_at "go"
      have := ne_mod o0 o1 r0 (by omega)
      exact ⟨_, _, rfl, hh1, this.1, this.2.1, this.2.2⟩
    clear hh
    rintro E ⟨h, other, rfl, hh, t0, t1, ne⟩
    refine seq_cut (fun E => ∃ h one other, E = [.bor k h, .fz (.int many), .fz (.int most), .own (.lst (ls.map lD)), .fz (.int b), .fz (.int near), .fz (.int quick), .fz (.int tilt), .fz (.int here), .fz (.int n), .fz (.int one), .fz (.int other)] ∧ HandD h ∧ 0 ≤ one ∧ one < many ∧ 0 ≤ other ∧ other < many ∧ one ≠ other) ?_ ?_
    · walk_at "go"
      refine call_by (draw_ok hh (by omega) (by omega)) ?_
      rintro d bs ⟨r, h1, rfl, rfl, hh1, r0, r1⟩
      have l2 : (2 : Nat) ≤ sizeLine := sl16 (by omega)
      walk_at "go l2"
      · exact ⟨_, _, _, rfl, hh1, by omega, by omega, by omega, by omega, by omega⟩
      · exact ⟨_, _, _, rfl, hh1, by omega, by omega, by omega, by omega, by omega⟩
    clear hh o0 o1 t0 t1 ne
    rintro E ⟨h, one, other, rfl, hh, o0, o1, t0, t1, ne⟩
    have ha := not_in3 (a := one) (b := other) (c := b) (ls := ls)
    have hln : (ls.map lD).length < sizeLine := by rw [List.length_map]; have := sl16 (n := 61) (by omega); omega
    by_cases hin : (one, other, b) ∈ ls
    · simp only [hin, decide_true] at ha
      walk_at "go ha l3"
      exact ⟨h, ls, b, other, _, _, _, rfl, hh, by omega, b9, t0, t1, by omega, fun l hl => ⟨(ok l hl).1, by have := (ok l hl).2; omega⟩, up, nd⟩
    · simp only [hin, decide_false] at ha
      walk_at "go ha l3 hln"
      refine ⟨h, ls ++ [(one, other, b)], b, other, .fz (.int n), .fz (.int one), .fz (.int other), by simp [lD], hh, by omega, b9, t0, t1, by simp; omega, fun l hl => ?_, ?_, ?_⟩
      · rcases List.mem_append.mp hl with hl | hl
        · exact ⟨(ok l hl).1, by have := (ok l hl).2; omega⟩
        · cases List.mem_singleton.mp hl
          exact ⟨⟨o0, o1, t0, t1, ne, by show 0 ≤ b; omega, b9⟩, Int.le_refl _⟩
      · refine List.pairwise_append.mpr ⟨up, List.pairwise_singleton .., fun x hx y hy => ?_⟩
        cases List.mem_singleton.mp hy
        have := (ok x hx).2
        show x.2.2 ≤ b
        omega
      · rw [List.nodup_append]
        refine ⟨nd, List.pairwise_singleton .., fun x hx y hy => ?_⟩
        cases List.mem_singleton.mp hy
        intro e; subst e; exact hin hx
  · rintro E ⟨h, ls, beat, here, s9, s10, s11, rfl, hh, b0, b1, e0, e1, hl, ok, up, nd⟩
    walk_at "go"
    exact ⟨ls, h, rfl, rfl, hh, m0, m1, by omega, fun l hl => (ok l hl).1, up, nd⟩


theorem e_barred {h : D} {k : Nat} {ls : List L3} (hh : HandD h) (hl : ls.length ≤ 60) :
    wpF (sem__law_barred [.bor k h, .fz (.tup (ls.map lD))]) (fun d bs => ∃ bar h', d = lot bar ∧ bs = [.bor k h', .no] ∧ HandD h' ∧ BarOk ls bar) := by
  have l6 : (6 : Nat) ≤ sizeLine := sl16 (by omega)
  have l0 : (0 : Nat) ≤ sizeLine := sl16 (by omega)
  have hs : (ls.map lD).length ≤ sizeLine := by rw [List.length_map]; exact sl16 (by omega)
  have hr := itR_nat (n := (ls.map lD).length) (by rw [List.length_map]; omega)
  refine fn_run ?_
  walk_at "go body__law_barred"
  refine call_by (draw_ok hh (by omega) (by omega)) ?_
  rintro d bs ⟨kind, h1, rfl, rfl, hh1, r0, r1⟩
  walk_at "go l0 hs hr"
  refine for_rng (fun n E => ∃ h bar s4 s5, E = [.bor k h, .fz (.tup (ls.map lD)), .fz (.int kind), .own (.lst (bar.map .int)), s4, s5] ∧ HandD h ∧ Up bar ∧ (∀ x, x ∈ bar → 0 ≤ x ∧ x < n) ∧ bar.length ≤ n) ?_ ?_ ?_
  · exact ⟨h1, [], _, _, rfl, hh1, List.Pairwise.nil, fun x hx => by simp at hx, Nat.le_refl _⟩
  · clear hh hh1
    rintro n E hn ⟨h, bar, s4, s5, rfl, hh, up, lt, le⟩
    rw [List.length_map] at hn
    obtain ⟨x, hx⟩ : ∃ x, ([0, 1, 1, 5, 9, 10] : List Int)[kind.toNat]? = some x := ⟨_, List.getElem?_eq_getElem (by simp; omega)⟩
    have gx : atI [D.int 0, .int 1, .int 1, .int 5, .int 9, .int 10] kind = some (.int x) := atI_map (f := D.int) (xs := [0, 1, 1, 5, 9, 10]) r0 hx
    have hln : (bar.map D.int).length < sizeLine := by rw [List.length_map]; have := sl16 (n := 61) (by omega); omega
    walk_at "go l6 gx"
    refine call_by (draw_ok hh (by omega) (by omega)) ?_
    rintro d bs ⟨r, h1, rfl, rfl, hh1, a0, a1⟩
    walk_at "go hln"
    · refine ⟨h1, bar ++ [(n : Int)], .fz (.int n), .fz (.int x), by simp, hh1, ?_, fun y hy => ?_, by simp; omega⟩
      · refine List.pairwise_append.mpr ⟨up, List.pairwise_singleton .., fun y hy z hz => ?_⟩
        cases List.mem_singleton.mp hz
        exact (lt y hy).2
      · rcases List.mem_append.mp hy with hy | hy
        · have := lt y hy; omega
        · cases List.mem_singleton.mp hy; omega
    · exact ⟨h1, bar, _, _, rfl, hh1, up, fun y hy => by have := lt y hy; omega, by omega⟩
  · rintro E ⟨h, bar, s4, s5, rfl, hh, up, lt, le⟩
    rw [List.length_map] at lt le
    walk_at "go"
    exact ⟨bar, h, rfl, rfl, hh, up, lt, by omega⟩
theorem p20 : oPow (.int 10) (.int 20) = some (.int 100000000000000000000) := by rfl
theorem e_beat {h : D} {k : Nat} {many : Int} {ls : List L3} (hh : HandD h) (so : SchOk many ls) :
    wpF (sem__law_beat [.bor k h, .fz (.tup (ls.map lD))]) (fun d bs => ∃ b h', d = .int b ∧ bs = [.bor k h', .no] ∧ HandD h' ∧ 0 ≤ b) := by
  have hl := so.le
  have l7 : (7 : Nat) ≤ sizeLine := sl16 (by omega)
  have l1 : (1 : Nat) ≤ sizeLine := sl16 (by omega)
  have hs : ls.length ≤ sizeLine := sl16 (by omega)
  refine fn_run ?_
  walk_at "go body__law_beat"
  refine lc_fun (k := lD) hs (fun l => .int l.2.2) (fun l _ => ?_) ?_
  · walk_at "go"
  have hc : ((ls.map fun l => D.int l.2.2)).length + 1 ≤ sizeLine := by rw [List.length_map]; exact sl16 (by omega)
  walk_at "go l1 hc"
  refine call_by (some_ok hh (by simp) (by simp; omega)) ?_
  rintro d bs ⟨h1, hd, rfl, hh1⟩
  obtain ⟨b, rfl, b0⟩ : ∃ b : Int, d = .int b ∧ 0 ≤ b := by
    rcases List.mem_append.mp hd with hd | hd
    · obtain ⟨l, hl, rfl⟩ := List.mem_map.mp hd
      exact ⟨_, rfl, (so.ok l hl).t0⟩
    · cases List.mem_singleton.mp hd; exact ⟨_, rfl, by omega⟩
  walk_at "go l7 p20"
  refine call_by (some_ok hh1 (by simp) (by simp)) ?_
  rintro d bs ⟨h2, hd2, rfl, hh2⟩
  obtain ⟨b2, rfl, b20⟩ : ∃ b : Int, d = .int b ∧ 0 ≤ b := by
    simp only [List.mem_cons, List.not_mem_nil, or_false] at hd2
    rcases hd2 with rfl | rfl | rfl | rfl | rfl | rfl | rfl
    · exact ⟨_, rfl, by omega⟩
    · exact ⟨_, rfl, by omega⟩
    · exact ⟨_, rfl, by omega⟩
    · exact ⟨_, rfl, by omega⟩
    · refine ⟨_, rfl, ?_⟩; split <;> omega
    · exact ⟨_, rfl, by omega⟩
    · exact ⟨_, rfl, by omega⟩
  walk_at "go"
  exact ⟨_, _, rfl, rfl, hh2, b20⟩
theorem e_law {ns : List Int} (hn : ns.length ≤ 63) : wpF (sem_law [.fz (.scr ns)]) (fun d _ => d = .bl true) := by
  have l7 : (7 : Nat) ≤ sizeLine := sl16 (by omega)
  have l6 : (6 : Nat) ≤ sizeLine := sl16 (by omega)
  have l4 : (4 : Nat) ≤ sizeLine := sl16 (by omega)
  refine fn_run ?_
  walk_at "go body_law"
  refine call_byN (hand_ok hn) ?_
  rintro h bs ⟨hh, rfl⟩
  walk_at "go"
  refine call_by (draw_ok hh (by omega) (by omega)) ?_
  rintro d bs ⟨m, h1, rfl, rfl, hh1, m0, m1⟩
  walk_at "go l7"
  refine call_by (some_ok hh1 (by simp) (by simp)) ?_
  rintro d bs ⟨h2, hd, rfl, hh2⟩
  obtain ⟨most, rfl, b0, b1⟩ : ∃ b : Int, d = .int b ∧ 0 ≤ b ∧ b ≤ 60 := by
    simp only [List.mem_cons, List.not_mem_nil, or_false] at hd
    rcases hd with rfl | rfl | rfl | rfl | rfl | rfl | rfl <;> exact ⟨_, rfl, by omega, by omega⟩
  walk_at "go"
  generalize hm : 2 + m = many at *
  refine call_by (e_letters hh2 (many := many) (by omega) (by omega) b0 b1) ?_
  rintro d bs ⟨ls, h3, rfl, rfl, hh3, so⟩
  have ei := e_init (k := 0) so
  have hr : itR [.int 4] = some (rangeD 0 4) := itR_nat (n := 4) (by omega)
  walk_at "go ei hr"
  refine for_rng (fun n E => ∃ h s5 s6 s7 s8 s9 s10 s11 s12, E = [.fz (.scr ns), .own h, .fz (.int many), .fz (.tup (ls.map lD)), .fz (schD many ls), s5, s6, s7, s8, s9, s10, s11, s12] ∧ HandD h) ?_ ?_ ?_
  · exact ⟨h3, _, _, _, _, _, _, _, _, rfl, hh3⟩
  · clear hh hh1 hh2 hh3
    rintro n E hn4 ⟨h, s5, s6, s7, s8, s9, s10, s11, s12, rfl, hh⟩
    walk_at "go"
    refine call_by (e_barred hh so.le) ?_
    rintro d bs ⟨bar, h1, rfl, rfl, hh1, bo⟩
    walk_at "go"
    refine call_by (draw_ok hh1 (by omega) (by omega)) ?_
    rintro d bs ⟨house, h2, rfl, rfl, hh2, o0, o1⟩
    walk_at "go"
    refine call_by (e_beat hh2 so) ?_
    rintro d bs ⟨beat, h3, rfl, rfl, hh3, t0⟩
    have e1 := e_lspread (bar := bar) (beat := beat) so o0 o1
    have e2 := e_spread (beat := beat) so bo o0 o1 t0
    have e3 := e_is_t (f := sprd many ls bar house beat) (by rw [sprd_len]; omega) 6
    walk_at "go e1 e2 e3 l6"
    refine call_by (some_ok hh3 (by simp) (by simp)) ?_
    rintro d bs ⟨h4, hd, rfl, hh4⟩
    obtain ⟨w, rfl, w0, w1⟩ : ∃ b : Int, d = .int b ∧ 1 ≤ b ∧ b ≤ 40 := by
      simp only [List.mem_cons, List.not_mem_nil, or_false] at hd
      rcases hd with rfl | rfl | rfl | rfl | rfl | rfl <;> exact ⟨_, rfl, by omega, by omega⟩
    have hrw := itR_int (j := w) (by omega) (by omega)
    walk_at "go hrw"
    refine lc_rng (sl16 (by omega)) (fun i acc E => ∃ (h : D) (xs : List Int), E = [.fz (.scr ns), .own h, .fz (.int many), .fz (.tup (ls.map lD)), .fz (schD many ls), .fz (.int n), .fz (lot bar), .fz (.int house), .fz (.int beat), .fz (tupO (sprd many ls bar house beat)), s10, s11, .no] ∧ HandD h ∧ acc = xs.map .int ∧ xs.length = i ∧ ∀ x, x ∈ xs → 0 ≤ x ∧ x < many) ?_ ?_ ?_
    · walk_at "run"
      exact ⟨h4, [], rfl, hh4, rfl, rfl, fun x hx => by simp at hx⟩
    · rintro i acc E hi ⟨h, xs, rfl, hh, rfl, hx, hb⟩
      walk_at "go"
      refine call_by (draw_ok hh (by omega) (by omega)) ?_
      rintro d bs ⟨x, h1, rfl, rfl, hh1, x0, x1⟩
      walk_at "go"
      refine ⟨h1, xs ++ [x], rfl, hh1, by simp, by simp [hx], fun y hy => ?_⟩
      rcases List.mem_append.mp hy with hy | hy
      · exact hb y hy
      · cases List.mem_singleton.mp hy; exact ⟨x0, x1⟩
    clear hh hh1 hh2 hh3 hh4 hd
    rintro acc E2 ⟨h, xs, rfl, hh, rfl, hx, hb⟩
    have hxs : (xs.map D.int).length ≤ sizeLine := by rw [List.length_map]; exact sl16 (by omega)
    have hxl : ((xs.map D.int).length : Int) = w := by rw [List.length_map, hx]; omega
    walk_at "go hxs hxl"
    refine call_by (draw_ok hh (by omega) (by omega)) ?_
    rintro d bs ⟨i1, h1, rfl, rfl, hh1, a0, a1⟩
    walk_at "go hxs hxl"
    refine call_by (draw_ok hh1 (by omega) (by omega)) ?_
    rintro d bs ⟨i2, h2, rfl, rfl, hh2, c0, c1⟩
    walk_at "go l4"
    refine for_ds (fun r E => ∃ h s9 s11 s12, E = [.fz (.scr ns), .own h, .fz (.int many), .fz (.tup (ls.map lD)), .fz (schD many ls), .fz (.int n), .fz (lot bar), .fz (.int house), .fz (.int beat), s9, .fz (lot xs), s11, s12] ∧ HandD h ∧ ∀ d, d ∈ r → ∃ i : Int, d = .int i ∧ 0 ≤ i ∧ i < w) ?_ ?_ ?_
    · refine ⟨h2, _, _, _, rfl, hh2, fun d hd => ?_⟩
      simp only [List.mem_cons, List.not_mem_nil, or_false] at hd
      rcases hd with rfl | rfl | rfl | rfl <;> exact ⟨_, rfl, by omega, by omega⟩
    · clear hh hh1 hh2
      rintro x r E ⟨h, s9, s11, s12, rfl, hh, hr⟩
      obtain ⟨i, rfl, i0, i1'⟩ := hr x (List.mem_cons_self ..)
      have f1 := e_learliest (bar := bar) so hb (by omega) i0 (by omega)
      have f2 := e_earliest so bo hb (by omega) i0 (by omega)
      have f3 := e_is_o (o := soon many ls bar (prs xs i.toNat) 0) 7
      walk_at "go f1 f2 f3"
      exact ⟨h, _, _, _, rfl, hh, fun d hd => hr d (List.mem_cons_of_mem _ hd)⟩
    · rintro E ⟨h, s9, s11, s12, rfl, hh, hr⟩
      walk_at "go"
      exact ⟨h, _, _, _, _, _, _, _, _, rfl, hh⟩
  · rintro E ⟨h, s5, s6, s7, s8, s9, s10, s11, s12, rfl, hh⟩
    have ei := e_init (k := 0) so
    have ee := e_eq so
    unfold schD at *
    walk_at "go ei ee"
theorem main (ns : List Int) (hn : ns.length ≤ 63) : ∃ bs, sem_law [.fz (.scr ns)] = .val (.bl true) bs := by
  have h := e_law hn
  revert h
  cases sem_law [.fz (.scr ns)] with
  | val d bs => rintro rfl; exact ⟨bs, rfl⟩
  | _ => exact fun h => h.elim

end Law

namespace Law
open PySem PySem.Spec PyProof.Rows L2 FL
theorem law_sp {K : PySem.W.Frag} {a : Adr} {H : Hp} {p : Addr} {ns : List Int} (hO : Only H) (hS : SqL K H p (ns.map V.int)) (h : ∃ bs, sem_law [.fz (.scr ns)] = .val (.bl true) bs) : spF (gm K a) 1 sem_law [.ref p] H (fun v _ => v = .bl true) fun _ _ _ => False := by
  obtain ⟨bs, e⟩ := h
  refine ⟨rfl, fun _ => 0, fun _ => none, [.fz (.scr ns)], H, ⟨Same.refl _, (fun _ _ z => nomatch z), (fun _ _ z => nomatch z), rfl, fun i d z => ?_, fun _ => 0, fun i s d z c => ?_, fun i k d z => ?_, fun i j s t d e e1 c1 _ _ _ => ?_⟩, ?_⟩
  · cases i with
    | zero => cases z; exact ⟨_, rfl, p, rfl, hS⟩
    | succ i => simp at z
  · cases i with
    | zero => cases z; cases c
    | succ i => simp at z
  · cases i with
    | zero => cases z
    | succ i => simp at z
  · cases i with
    | zero => cases e1; cases c1
    | succ i => simp at e1
  · rw [e]; exact fun v F' H' _ _ r => r
theorem all_mk {K : PySem.W.Frag} {h : Heap} {mg : Str → Option Value} (X : K.In h) (G : h.Ns mainGlobals mg)
    {c_Schedule a_is_integer a_is_between a_is_number a_is_sized a_is_lot a_is_order a_check_order a_known a_check_house a_check_lot a_spread a_soonest a_earliest a_is_letter a_first_wrong a_Schedule___init__ a_Schedule___eq__ a__law_hand a__law_draw a__law_some a__law_is a__law_letters a__law_spread a__law_earliest a__law_barred a__law_beat a_law : Addr}
    {od_is_integer an_is_integer : Option Addr} {sl_is_integer : Array (Option Value)} {oc_is_integer kV_is_integer dc_is_integer pm_is_integer cd_is_integer ct_is_integer : Value}
    {od_is_between an_is_between : Option Addr} {sl_is_between : Array (Option Value)} {oc_is_between kV_is_between dc_is_between pm_is_between cd_is_between ct_is_between : Value}
    {od_is_number an_is_number : Option Addr} {sl_is_number : Array (Option Value)} {oc_is_number kV_is_number dc_is_number pm_is_number cd_is_number ct_is_number : Value}
    {od_is_sized an_is_sized : Option Addr} {sl_is_sized : Array (Option Value)} {oc_is_sized kV_is_sized dc_is_sized pm_is_sized cd_is_sized ct_is_sized : Value}
    {od_is_lot an_is_lot : Option Addr} {sl_is_lot : Array (Option Value)} {oc_is_lot kV_is_lot dc_is_lot pm_is_lot cd_is_lot ct_is_lot : Value}
    {od_is_order an_is_order : Option Addr} {sl_is_order : Array (Option Value)} {oc_is_order kV_is_order dc_is_order pm_is_order cd_is_order ct_is_order : Value}
    {od_check_order an_check_order : Option Addr} {sl_check_order : Array (Option Value)} {oc_check_order kV_check_order dc_check_order pm_check_order cd_check_order ct_check_order : Value}
    {od_known an_known : Option Addr} {sl_known : Array (Option Value)} {oc_known kV_known dc_known pm_known cd_known ct_known : Value}
    {od_check_house an_check_house : Option Addr} {sl_check_house : Array (Option Value)} {oc_check_house kV_check_house dc_check_house pm_check_house cd_check_house ct_check_house : Value}
    {od_check_lot an_check_lot : Option Addr} {sl_check_lot : Array (Option Value)} {oc_check_lot kV_check_lot dc_check_lot pm_check_lot cd_check_lot ct_check_lot : Value}
    {od_spread an_spread : Option Addr} {sl_spread : Array (Option Value)} {oc_spread kV_spread dc_spread pm_spread cd_spread ct_spread : Value}
    {od_soonest an_soonest : Option Addr} {sl_soonest : Array (Option Value)} {oc_soonest kV_soonest dc_soonest pm_soonest cd_soonest ct_soonest : Value}
    {od_earliest an_earliest : Option Addr} {sl_earliest : Array (Option Value)} {oc_earliest kV_earliest dc_earliest pm_earliest cd_earliest ct_earliest : Value}
    {od_is_letter an_is_letter : Option Addr} {sl_is_letter : Array (Option Value)} {oc_is_letter kV_is_letter dc_is_letter pm_is_letter cd_is_letter ct_is_letter : Value}
    {od_first_wrong an_first_wrong : Option Addr} {sl_first_wrong : Array (Option Value)} {oc_first_wrong kV_first_wrong dc_first_wrong pm_first_wrong cd_first_wrong ct_first_wrong : Value}
    {od_Schedule___init__ an_Schedule___init__ : Option Addr} {sl_Schedule___init__ : Array (Option Value)} {oc_Schedule___init__ kV_Schedule___init__ dc_Schedule___init__ pm_Schedule___init__ cd_Schedule___init__ ct_Schedule___init__ : Value}
    {od_Schedule___eq__ an_Schedule___eq__ : Option Addr} {sl_Schedule___eq__ : Array (Option Value)} {oc_Schedule___eq__ kV_Schedule___eq__ dc_Schedule___eq__ pm_Schedule___eq__ cd_Schedule___eq__ ct_Schedule___eq__ : Value}
    {od__law_hand an__law_hand : Option Addr} {sl__law_hand : Array (Option Value)} {oc__law_hand kV__law_hand dc__law_hand pm__law_hand cd__law_hand ct__law_hand : Value}
    {od__law_draw an__law_draw : Option Addr} {sl__law_draw : Array (Option Value)} {oc__law_draw kV__law_draw dc__law_draw pm__law_draw cd__law_draw ct__law_draw : Value}
    {od__law_some an__law_some : Option Addr} {sl__law_some : Array (Option Value)} {oc__law_some kV__law_some dc__law_some pm__law_some cd__law_some ct__law_some : Value}
    {od__law_is an__law_is : Option Addr} {sl__law_is : Array (Option Value)} {oc__law_is kV__law_is dc__law_is pm__law_is cd__law_is ct__law_is : Value}
    {od__law_letters an__law_letters : Option Addr} {sl__law_letters : Array (Option Value)} {oc__law_letters kV__law_letters dc__law_letters pm__law_letters cd__law_letters ct__law_letters : Value}
    {od__law_spread an__law_spread : Option Addr} {sl__law_spread : Array (Option Value)} {oc__law_spread kV__law_spread dc__law_spread pm__law_spread cd__law_spread ct__law_spread : Value}
    {od__law_earliest an__law_earliest : Option Addr} {sl__law_earliest : Array (Option Value)} {oc__law_earliest kV__law_earliest dc__law_earliest pm__law_earliest cd__law_earliest ct__law_earliest : Value}
    {od__law_barred an__law_barred : Option Addr} {sl__law_barred : Array (Option Value)} {oc__law_barred kV__law_barred dc__law_barred pm__law_barred cd__law_barred ct__law_barred : Value}
    {od__law_beat an__law_beat : Option Addr} {sl__law_beat : Array (Option Value)} {oc__law_beat kV__law_beat dc__law_beat pm__law_beat cd__law_beat ct__law_beat : Value}
    {od_law an_law : Option Addr} {sl_law : Array (Option Value)} {oc_law kV_law dc_law pm_law cd_law ct_law : Value}
    {t_MOST_OWNERS t_LEAST_HOUSES t_MOST_HOUSES t_MOST_LETTERS t_MOST_BEAT : Tok}
    (m_Schedule : PySem.W.nsIn K mainGlobals "Schedule" = some (some (.ref c_Schedule)))
    (n_is_integer : PySem.W.nsIn K mainGlobals "is_integer" = some (some (.ref a_is_integer)))
    (l_is_integer : K.lookup a_is_integer = some ⟨oc_is_integer, od_is_integer, .func (PySem.W.fnOf "is_integer" "is_integer" (defArgs s_is_integer) (defBody s_is_integer) (defScope s_is_integer) .none kV_is_integer dc_is_integer pm_is_integer an_is_integer cd_is_integer ct_is_integer), sl_is_integer⟩)
    (e_is_integer : PySem.W.codeIn K cd_is_integer "is_integer" = true)
    (kk_is_integer : PySem.W.keepIn K (.ref a_is_integer) = true)
    (n_is_between : PySem.W.nsIn K mainGlobals "is_between" = some (some (.ref a_is_between)))
    (l_is_between : K.lookup a_is_between = some ⟨oc_is_between, od_is_between, .func (PySem.W.fnOf "is_between" "is_between" (defArgs s_is_between) (defBody s_is_between) (defScope s_is_between) .none kV_is_between dc_is_between pm_is_between an_is_between cd_is_between ct_is_between), sl_is_between⟩)
    (e_is_between : PySem.W.codeIn K cd_is_between "is_between" = true)
    (kk_is_between : PySem.W.keepIn K (.ref a_is_between) = true)
    (n_is_number : PySem.W.nsIn K mainGlobals "is_number" = some (some (.ref a_is_number)))
    (l_is_number : K.lookup a_is_number = some ⟨oc_is_number, od_is_number, .func (PySem.W.fnOf "is_number" "is_number" (defArgs s_is_number) (defBody s_is_number) (defScope s_is_number) .none kV_is_number dc_is_number pm_is_number an_is_number cd_is_number ct_is_number), sl_is_number⟩)
    (e_is_number : PySem.W.codeIn K cd_is_number "is_number" = true)
    (kk_is_number : PySem.W.keepIn K (.ref a_is_number) = true)
    (n_is_sized : PySem.W.nsIn K mainGlobals "is_sized" = some (some (.ref a_is_sized)))
    (l_is_sized : K.lookup a_is_sized = some ⟨oc_is_sized, od_is_sized, .func (PySem.W.fnOf "is_sized" "is_sized" (defArgs s_is_sized) (defBody s_is_sized) (defScope s_is_sized) .none kV_is_sized dc_is_sized pm_is_sized an_is_sized cd_is_sized ct_is_sized), sl_is_sized⟩)
    (e_is_sized : PySem.W.codeIn K cd_is_sized "is_sized" = true)
    (kk_is_sized : PySem.W.keepIn K (.ref a_is_sized) = true)
    (n_is_lot : PySem.W.nsIn K mainGlobals "is_lot" = some (some (.ref a_is_lot)))
    (l_is_lot : K.lookup a_is_lot = some ⟨oc_is_lot, od_is_lot, .func (PySem.W.fnOf "is_lot" "is_lot" (defArgs s_is_lot) (defBody s_is_lot) (defScope s_is_lot) .none kV_is_lot dc_is_lot pm_is_lot an_is_lot cd_is_lot ct_is_lot), sl_is_lot⟩)
    (e_is_lot : PySem.W.codeIn K cd_is_lot "is_lot" = true)
    (kk_is_lot : PySem.W.keepIn K (.ref a_is_lot) = true)
    (n_is_order : PySem.W.nsIn K mainGlobals "is_order" = some (some (.ref a_is_order)))
    (l_is_order : K.lookup a_is_order = some ⟨oc_is_order, od_is_order, .func (PySem.W.fnOf "is_order" "is_order" (defArgs s_is_order) (defBody s_is_order) (defScope s_is_order) .none kV_is_order dc_is_order pm_is_order an_is_order cd_is_order ct_is_order), sl_is_order⟩)
    (e_is_order : PySem.W.codeIn K cd_is_order "is_order" = true)
    (kk_is_order : PySem.W.keepIn K (.ref a_is_order) = true)
    (n_check_order : PySem.W.nsIn K mainGlobals "check_order" = some (some (.ref a_check_order)))
    (l_check_order : K.lookup a_check_order = some ⟨oc_check_order, od_check_order, .func (PySem.W.fnOf "check_order" "check_order" (defArgs s_check_order) (defBody s_check_order) (defScope s_check_order) .none kV_check_order dc_check_order pm_check_order an_check_order cd_check_order ct_check_order), sl_check_order⟩)
    (e_check_order : PySem.W.codeIn K cd_check_order "check_order" = true)
    (kk_check_order : PySem.W.keepIn K (.ref a_check_order) = true)
    (n_known : PySem.W.nsIn K mainGlobals "known" = some (some (.ref a_known)))
    (l_known : K.lookup a_known = some ⟨oc_known, od_known, .func (PySem.W.fnOf "known" "known" (defArgs s_known) (defBody s_known) (defScope s_known) .none kV_known dc_known pm_known an_known cd_known ct_known), sl_known⟩)
    (e_known : PySem.W.codeIn K cd_known "known" = true)
    (kk_known : PySem.W.keepIn K (.ref a_known) = true)
    (n_check_house : PySem.W.nsIn K mainGlobals "check_house" = some (some (.ref a_check_house)))
    (l_check_house : K.lookup a_check_house = some ⟨oc_check_house, od_check_house, .func (PySem.W.fnOf "check_house" "check_house" (defArgs s_check_house) (defBody s_check_house) (defScope s_check_house) .none kV_check_house dc_check_house pm_check_house an_check_house cd_check_house ct_check_house), sl_check_house⟩)
    (e_check_house : PySem.W.codeIn K cd_check_house "check_house" = true)
    (kk_check_house : PySem.W.keepIn K (.ref a_check_house) = true)
    (n_check_lot : PySem.W.nsIn K mainGlobals "check_lot" = some (some (.ref a_check_lot)))
    (l_check_lot : K.lookup a_check_lot = some ⟨oc_check_lot, od_check_lot, .func (PySem.W.fnOf "check_lot" "check_lot" (defArgs s_check_lot) (defBody s_check_lot) (defScope s_check_lot) .none kV_check_lot dc_check_lot pm_check_lot an_check_lot cd_check_lot ct_check_lot), sl_check_lot⟩)
    (e_check_lot : PySem.W.codeIn K cd_check_lot "check_lot" = true)
    (kk_check_lot : PySem.W.keepIn K (.ref a_check_lot) = true)
    (n_spread : PySem.W.nsIn K mainGlobals "spread" = some (some (.ref a_spread)))
    (l_spread : K.lookup a_spread = some ⟨oc_spread, od_spread, .func (PySem.W.fnOf "spread" "spread" (defArgs s_spread) (defBody s_spread) (defScope s_spread) .none kV_spread dc_spread pm_spread an_spread cd_spread ct_spread), sl_spread⟩)
    (e_spread : PySem.W.codeIn K cd_spread "spread" = true)
    (kk_spread : PySem.W.keepIn K (.ref a_spread) = true)
    (n_soonest : PySem.W.nsIn K mainGlobals "soonest" = some (some (.ref a_soonest)))
    (l_soonest : K.lookup a_soonest = some ⟨oc_soonest, od_soonest, .func (PySem.W.fnOf "soonest" "soonest" (defArgs s_soonest) (defBody s_soonest) (defScope s_soonest) .none kV_soonest dc_soonest pm_soonest an_soonest cd_soonest ct_soonest), sl_soonest⟩)
    (e_soonest : PySem.W.codeIn K cd_soonest "soonest" = true)
    (kk_soonest : PySem.W.keepIn K (.ref a_soonest) = true)
    (n_earliest : PySem.W.nsIn K mainGlobals "earliest" = some (some (.ref a_earliest)))
    (l_earliest : K.lookup a_earliest = some ⟨oc_earliest, od_earliest, .func (PySem.W.fnOf "earliest" "earliest" (defArgs s_earliest) (defBody s_earliest) (defScope s_earliest) .none kV_earliest dc_earliest pm_earliest an_earliest cd_earliest ct_earliest), sl_earliest⟩)
    (e_earliest : PySem.W.codeIn K cd_earliest "earliest" = true)
    (kk_earliest : PySem.W.keepIn K (.ref a_earliest) = true)
    (n_is_letter : PySem.W.nsIn K mainGlobals "is_letter" = some (some (.ref a_is_letter)))
    (l_is_letter : K.lookup a_is_letter = some ⟨oc_is_letter, od_is_letter, .func (PySem.W.fnOf "is_letter" "is_letter" (defArgs s_is_letter) (defBody s_is_letter) (defScope s_is_letter) .none kV_is_letter dc_is_letter pm_is_letter an_is_letter cd_is_letter ct_is_letter), sl_is_letter⟩)
    (e_is_letter : PySem.W.codeIn K cd_is_letter "is_letter" = true)
    (kk_is_letter : PySem.W.keepIn K (.ref a_is_letter) = true)
    (n_first_wrong : PySem.W.nsIn K mainGlobals "first_wrong" = some (some (.ref a_first_wrong)))
    (l_first_wrong : K.lookup a_first_wrong = some ⟨oc_first_wrong, od_first_wrong, .func (PySem.W.fnOf "first_wrong" "first_wrong" (defArgs s_first_wrong) (defBody s_first_wrong) (defScope s_first_wrong) .none kV_first_wrong dc_first_wrong pm_first_wrong an_first_wrong cd_first_wrong ct_first_wrong), sl_first_wrong⟩)
    (e_first_wrong : PySem.W.codeIn K cd_first_wrong "first_wrong" = true)
    (kk_first_wrong : PySem.W.keepIn K (.ref a_first_wrong) = true)
    (n_Schedule___init__ : PySem.W.findIn K (.ref c_Schedule) "__init__" = some (some (.ref a_Schedule___init__)))
    (l_Schedule___init__ : K.lookup a_Schedule___init__ = some ⟨oc_Schedule___init__, od_Schedule___init__, .func (PySem.W.fnOf "__init__" "Schedule.__init__" (defArgs s_Schedule___init__) (defBody s_Schedule___init__) (defScope s_Schedule___init__) .none kV_Schedule___init__ dc_Schedule___init__ pm_Schedule___init__ an_Schedule___init__ cd_Schedule___init__ ct_Schedule___init__), sl_Schedule___init__⟩)
    (e_Schedule___init__ : PySem.W.codeIn K cd_Schedule___init__ "Schedule.__init__" = true)
    (kk_Schedule___init__ : PySem.W.keepIn K (.ref a_Schedule___init__) = true)
    (n_Schedule___eq__ : PySem.W.findIn K (.ref c_Schedule) "__eq__" = some (some (.ref a_Schedule___eq__)))
    (l_Schedule___eq__ : K.lookup a_Schedule___eq__ = some ⟨oc_Schedule___eq__, od_Schedule___eq__, .func (PySem.W.fnOf "__eq__" "Schedule.__eq__" (defArgs s_Schedule___eq__) (defBody s_Schedule___eq__) (defScope s_Schedule___eq__) .none kV_Schedule___eq__ dc_Schedule___eq__ pm_Schedule___eq__ an_Schedule___eq__ cd_Schedule___eq__ ct_Schedule___eq__), sl_Schedule___eq__⟩)
    (e_Schedule___eq__ : PySem.W.codeIn K cd_Schedule___eq__ "Schedule.__eq__" = true)
    (kk_Schedule___eq__ : PySem.W.keepIn K (.ref a_Schedule___eq__) = true)
    (n__law_hand : PySem.W.nsIn K mainGlobals "_law_hand" = some (some (.ref a__law_hand)))
    (l__law_hand : K.lookup a__law_hand = some ⟨oc__law_hand, od__law_hand, .func (PySem.W.fnOf "_law_hand" "_law_hand" (defArgs s__law_hand) (defBody s__law_hand) (defScope s__law_hand) .none kV__law_hand dc__law_hand pm__law_hand an__law_hand cd__law_hand ct__law_hand), sl__law_hand⟩)
    (e__law_hand : PySem.W.codeIn K cd__law_hand "_law_hand" = true)
    (kk__law_hand : PySem.W.keepIn K (.ref a__law_hand) = true)
    (n__law_draw : PySem.W.nsIn K mainGlobals "_law_draw" = some (some (.ref a__law_draw)))
    (l__law_draw : K.lookup a__law_draw = some ⟨oc__law_draw, od__law_draw, .func (PySem.W.fnOf "_law_draw" "_law_draw" (defArgs s__law_draw) (defBody s__law_draw) (defScope s__law_draw) .none kV__law_draw dc__law_draw pm__law_draw an__law_draw cd__law_draw ct__law_draw), sl__law_draw⟩)
    (e__law_draw : PySem.W.codeIn K cd__law_draw "_law_draw" = true)
    (kk__law_draw : PySem.W.keepIn K (.ref a__law_draw) = true)
    (n__law_some : PySem.W.nsIn K mainGlobals "_law_some" = some (some (.ref a__law_some)))
    (l__law_some : K.lookup a__law_some = some ⟨oc__law_some, od__law_some, .func (PySem.W.fnOf "_law_some" "_law_some" (defArgs s__law_some) (defBody s__law_some) (defScope s__law_some) .none kV__law_some dc__law_some pm__law_some an__law_some cd__law_some ct__law_some), sl__law_some⟩)
    (e__law_some : PySem.W.codeIn K cd__law_some "_law_some" = true)
    (kk__law_some : PySem.W.keepIn K (.ref a__law_some) = true)
    (n__law_is : PySem.W.nsIn K mainGlobals "_law_is" = some (some (.ref a__law_is)))
    (l__law_is : K.lookup a__law_is = some ⟨oc__law_is, od__law_is, .func (PySem.W.fnOf "_law_is" "_law_is" (defArgs s__law_is) (defBody s__law_is) (defScope s__law_is) .none kV__law_is dc__law_is pm__law_is an__law_is cd__law_is ct__law_is), sl__law_is⟩)
    (e__law_is : PySem.W.codeIn K cd__law_is "_law_is" = true)
    (kk__law_is : PySem.W.keepIn K (.ref a__law_is) = true)
    (n__law_letters : PySem.W.nsIn K mainGlobals "_law_letters" = some (some (.ref a__law_letters)))
    (l__law_letters : K.lookup a__law_letters = some ⟨oc__law_letters, od__law_letters, .func (PySem.W.fnOf "_law_letters" "_law_letters" (defArgs s__law_letters) (defBody s__law_letters) (defScope s__law_letters) .none kV__law_letters dc__law_letters pm__law_letters an__law_letters cd__law_letters ct__law_letters), sl__law_letters⟩)
    (e__law_letters : PySem.W.codeIn K cd__law_letters "_law_letters" = true)
    (kk__law_letters : PySem.W.keepIn K (.ref a__law_letters) = true)
    (n__law_spread : PySem.W.nsIn K mainGlobals "_law_spread" = some (some (.ref a__law_spread)))
    (l__law_spread : K.lookup a__law_spread = some ⟨oc__law_spread, od__law_spread, .func (PySem.W.fnOf "_law_spread" "_law_spread" (defArgs s__law_spread) (defBody s__law_spread) (defScope s__law_spread) .none kV__law_spread dc__law_spread pm__law_spread an__law_spread cd__law_spread ct__law_spread), sl__law_spread⟩)
    (e__law_spread : PySem.W.codeIn K cd__law_spread "_law_spread" = true)
    (kk__law_spread : PySem.W.keepIn K (.ref a__law_spread) = true)
    (n__law_earliest : PySem.W.nsIn K mainGlobals "_law_earliest" = some (some (.ref a__law_earliest)))
    (l__law_earliest : K.lookup a__law_earliest = some ⟨oc__law_earliest, od__law_earliest, .func (PySem.W.fnOf "_law_earliest" "_law_earliest" (defArgs s__law_earliest) (defBody s__law_earliest) (defScope s__law_earliest) .none kV__law_earliest dc__law_earliest pm__law_earliest an__law_earliest cd__law_earliest ct__law_earliest), sl__law_earliest⟩)
    (e__law_earliest : PySem.W.codeIn K cd__law_earliest "_law_earliest" = true)
    (kk__law_earliest : PySem.W.keepIn K (.ref a__law_earliest) = true)
    (n__law_barred : PySem.W.nsIn K mainGlobals "_law_barred" = some (some (.ref a__law_barred)))
    (l__law_barred : K.lookup a__law_barred = some ⟨oc__law_barred, od__law_barred, .func (PySem.W.fnOf "_law_barred" "_law_barred" (defArgs s__law_barred) (defBody s__law_barred) (defScope s__law_barred) .none kV__law_barred dc__law_barred pm__law_barred an__law_barred cd__law_barred ct__law_barred), sl__law_barred⟩)
    (e__law_barred : PySem.W.codeIn K cd__law_barred "_law_barred" = true)
    (kk__law_barred : PySem.W.keepIn K (.ref a__law_barred) = true)
    (n__law_beat : PySem.W.nsIn K mainGlobals "_law_beat" = some (some (.ref a__law_beat)))
    (l__law_beat : K.lookup a__law_beat = some ⟨oc__law_beat, od__law_beat, .func (PySem.W.fnOf "_law_beat" "_law_beat" (defArgs s__law_beat) (defBody s__law_beat) (defScope s__law_beat) .none kV__law_beat dc__law_beat pm__law_beat an__law_beat cd__law_beat ct__law_beat), sl__law_beat⟩)
    (e__law_beat : PySem.W.codeIn K cd__law_beat "_law_beat" = true)
    (kk__law_beat : PySem.W.keepIn K (.ref a__law_beat) = true)
    (n_law : PySem.W.nsIn K mainGlobals "law" = some (some (.ref a_law)))
    (l_law : K.lookup a_law = some ⟨oc_law, od_law, .func (PySem.W.fnOf "law" "law" (defArgs s_law) (defBody s_law) (defScope s_law) .none kV_law dc_law pm_law an_law cd_law ct_law), sl_law⟩)
    (e_law : PySem.W.codeIn K cd_law "law" = true)
    (kk_law : PySem.W.keepIn K (.ref a_law) = true)
    (pg_Schedule : PySem.W.plainGet K c_Schedule Str.empty = true)
    (hd_Schedule : PySem.W.hasDictIn K c_Schedule = true)
    (po_Schedule : PySem.W.plainOver K c_Schedule = true)
    (sa_Schedule : PySem.W.findIn K (.ref c_Schedule) "__setattr__" = some (some (.builtin "object.__setattr__")))
    (ca_Schedule : PySem.W.findIn K (.ref c_Schedule) "__class__" = some (some (.builtin "object.__class__")))
    (cm_Schedule : PySem.W.mroIn K c_Schedule (.type "object") = some true)
    (mm_Schedule : PySem.W.makesIn K c_Schedule = true)
    (mf_Schedule : PySem.W.isFn K (.ref a_Schedule___init__) = true)
    (mk_Schedule : PySem.W.keepIn K (.ref c_Schedule) = true)
    (ef_Schedule : PySem.W.isFn K (.ref a_Schedule___eq__) = true)
    (na_many_Schedule : PySem.W.findIn K (.ref c_Schedule) "many" = some none)
    (na_letters_Schedule : PySem.W.findIn K (.ref c_Schedule) "letters" = some none)
    (cg : PySem.W.specialIn K (.builtin "object.__class__") "__get__" = some (some (.builtin "getset_descriptor.__get__")))
    (ct : PySem.W.takesIn K (.builtin "object.__class__") = some true)
    (q_MOST_OWNERS : PySem.W.nsIn K mainGlobals "MOST_OWNERS" = some (some (Value.int 40 t_MOST_OWNERS)))
    (q_LEAST_HOUSES : PySem.W.nsIn K mainGlobals "LEAST_HOUSES" = some (some (Value.int 2 t_LEAST_HOUSES)))
    (q_MOST_HOUSES : PySem.W.nsIn K mainGlobals "MOST_HOUSES" = some (some (Value.int 8 t_MOST_HOUSES)))
    (q_MOST_LETTERS : PySem.W.nsIn K mainGlobals "MOST_LETTERS" = some (some (Value.int 60 t_MOST_LETTERS)))
    (q_MOST_BEAT : PySem.W.nsIn K mainGlobals "MOST_BEAT" = some (some (Value.int 999 t_MOST_BEAT)))
    (b_all : PySem.W.nsIn K mainGlobals "all" = some none)
    (b_bool : PySem.W.nsIn K mainGlobals "bool" = some none)
    (b_enumerate : PySem.W.nsIn K mainGlobals "enumerate" = some none)
    (b_int : PySem.W.nsIn K mainGlobals "int" = some none)
    (b_isinstance : PySem.W.nsIn K mainGlobals "isinstance" = some none)
    (b_len : PySem.W.nsIn K mainGlobals "len" = some none)
    (b_list : PySem.W.nsIn K mainGlobals "list" = some none)
    (b_max : PySem.W.nsIn K mainGlobals "max" = some none)
    (b_min : PySem.W.nsIn K mainGlobals "min" = some none)
    (b_range : PySem.W.nsIn K mainGlobals "range" = some none)
    (b_tuple : PySem.W.nsIn K mainGlobals "tuple" = some none)
    (b_zip : PySem.W.nsIn K mainGlobals "zip" = some none) :
    ∃ a : Adr, Txt K mg a ∧ mg "law" = some (.ref a.a_law) := by
  obtain ⟨d_is_integer, F_is_integer, B_is_integer⟩ := fun_at (st := s_is_integer) (ps := ["thing"]) l_is_integer e_is_integer kk_is_integer (fun _ _ _ _ _ _ us hl => match us, hl with | [_], _ => rfl)
  obtain ⟨d_is_between, F_is_between, B_is_between⟩ := fun_at (st := s_is_between) (ps := ["thing", "low", "high"]) l_is_between e_is_between kk_is_between (fun _ _ _ _ _ _ us hl => match us, hl with | [_, _, _], _ => rfl)
  obtain ⟨d_is_number, F_is_number, B_is_number⟩ := fun_at (st := s_is_number) (ps := ["thing"]) l_is_number e_is_number kk_is_number (fun _ _ _ _ _ _ us hl => match us, hl with | [_], _ => rfl)
  obtain ⟨d_is_sized, F_is_sized, B_is_sized⟩ := fun_at (st := s_is_sized) (ps := ["thing", "low", "high"]) l_is_sized e_is_sized kk_is_sized (fun _ _ _ _ _ _ us hl => match us, hl with | [_, _, _], _ => rfl)
  obtain ⟨d_is_lot, F_is_lot, B_is_lot⟩ := fun_at (st := s_is_lot) (ps := ["thing", "below"]) l_is_lot e_is_lot kk_is_lot (fun _ _ _ _ _ _ us hl => match us, hl with | [_, _], _ => rfl)
  obtain ⟨d_is_order, F_is_order, B_is_order⟩ := fun_at (st := s_is_order) (ps := ["many", "thing"]) l_is_order e_is_order kk_is_order (fun _ _ _ _ _ _ us hl => match us, hl with | [_, _], _ => rfl)
  obtain ⟨d_check_order, F_check_order, B_check_order⟩ := fun_at (st := s_check_order) (ps := ["many", "order"]) l_check_order e_check_order kk_check_order (fun _ _ _ _ _ _ us hl => match us, hl with | [_, _], _ => rfl)
  obtain ⟨d_known, F_known, B_known⟩ := fun_at (st := s_known) (ps := ["schedule", "house", "beat", "barred"]) l_known e_known kk_known (fun _ _ _ _ _ _ us hl => match us, hl with | [_, _, _, _], _ => rfl)
  obtain ⟨d_check_house, F_check_house, B_check_house⟩ := fun_at (st := s_check_house) (ps := ["schedule", "house"]) l_check_house e_check_house kk_check_house (fun _ _ _ _ _ _ us hl => match us, hl with | [_, _], _ => rfl)
  obtain ⟨d_check_lot, F_check_lot, B_check_lot⟩ := fun_at (st := s_check_lot) (ps := ["schedule", "letters"]) l_check_lot e_check_lot kk_check_lot (fun _ _ _ _ _ _ us hl => match us, hl with | [_, _], _ => rfl)
  obtain ⟨d_spread, F_spread, B_spread⟩ := fun_at (st := s_spread) (ps := ["schedule", "house", "beat", "barred"]) l_spread e_spread kk_spread (fun _ _ _ _ _ _ us hl => match us, hl with | [_, _, _, _], _ => rfl)
  obtain ⟨d_soonest, F_soonest, B_soonest⟩ := fun_at (st := s_soonest) (ps := ["schedule", "order", "index", "barred"]) l_soonest e_soonest kk_soonest (fun _ _ _ _ _ _ us hl => match us, hl with | [_, _, _, _], _ => rfl)
  obtain ⟨d_earliest, F_earliest, B_earliest⟩ := fun_at (st := s_earliest) (ps := ["schedule", "order", "index", "barred"]) l_earliest e_earliest kk_earliest (fun _ _ _ _ _ _ us hl => match us, hl with | [_, _, _, _], _ => rfl)
  obtain ⟨d_is_letter, F_is_letter, B_is_letter⟩ := fun_at (st := s_is_letter) (ps := ["many", "thing"]) l_is_letter e_is_letter kk_is_letter (fun _ _ _ _ _ _ us hl => match us, hl with | [_, _], _ => rfl)
  obtain ⟨d_first_wrong, F_first_wrong, B_first_wrong⟩ := fun_at (st := s_first_wrong) (ps := ["many", "letters"]) l_first_wrong e_first_wrong kk_first_wrong (fun _ _ _ _ _ _ us hl => match us, hl with | [_, _], _ => rfl)
  obtain ⟨d_Schedule___init__, F_Schedule___init__, B_Schedule___init__⟩ := fun_at (st := s_Schedule___init__) (ps := ["self", "many", "letters"]) l_Schedule___init__ e_Schedule___init__ kk_Schedule___init__ (fun _ _ _ _ _ _ us hl => match us, hl with | [_, _, _], _ => rfl)
  obtain ⟨d_Schedule___eq__, F_Schedule___eq__, B_Schedule___eq__⟩ := fun_at (st := s_Schedule___eq__) (ps := ["self", "thing"]) l_Schedule___eq__ e_Schedule___eq__ kk_Schedule___eq__ (fun _ _ _ _ _ _ us hl => match us, hl with | [_, _], _ => rfl)
  obtain ⟨d__law_hand, F__law_hand, B__law_hand⟩ := fun_at (st := s__law_hand) (ps := ["script"]) l__law_hand e__law_hand kk__law_hand (fun _ _ _ _ _ _ us hl => match us, hl with | [_], _ => rfl)
  obtain ⟨d__law_draw, F__law_draw, B__law_draw⟩ := fun_at (st := s__law_draw) (ps := ["hand", "many"]) l__law_draw e__law_draw kk__law_draw (fun _ _ _ _ _ _ us hl => match us, hl with | [_, _], _ => rfl)
  obtain ⟨d__law_some, F__law_some, B__law_some⟩ := fun_at (st := s__law_some) (ps := ["hand", "things"]) l__law_some e__law_some kk__law_some (fun _ _ _ _ _ _ us hl => match us, hl with | [_, _], _ => rfl)
  obtain ⟨d__law_is, F__law_is, B__law_is⟩ := fun_at (st := s__law_is) (ps := ["told", "due"]) l__law_is e__law_is kk__law_is (fun _ _ _ _ _ _ us hl => match us, hl with | [_, _], _ => rfl)
  obtain ⟨d__law_letters, F__law_letters, B__law_letters⟩ := fun_at (st := s__law_letters) (ps := ["hand", "many", "most"]) l__law_letters e__law_letters kk__law_letters (fun _ _ _ _ _ _ us hl => match us, hl with | [_, _, _], _ => rfl)
  obtain ⟨d__law_spread, F__law_spread, B__law_spread⟩ := fun_at (st := s__law_spread) (ps := ["letters", "many", "house", "beat", "barred"]) l__law_spread e__law_spread kk__law_spread (fun _ _ _ _ _ _ us hl => match us, hl with | [_, _, _, _, _], _ => rfl)
  obtain ⟨d__law_earliest, F__law_earliest, B__law_earliest⟩ := fun_at (st := s__law_earliest) (ps := ["letters", "many", "order", "index", "barred"]) l__law_earliest e__law_earliest kk__law_earliest (fun _ _ _ _ _ _ us hl => match us, hl with | [_, _, _, _, _], _ => rfl)
  obtain ⟨d__law_barred, F__law_barred, B__law_barred⟩ := fun_at (st := s__law_barred) (ps := ["hand", "letters"]) l__law_barred e__law_barred kk__law_barred (fun _ _ _ _ _ _ us hl => match us, hl with | [_, _], _ => rfl)
  obtain ⟨d__law_beat, F__law_beat, B__law_beat⟩ := fun_at (st := s__law_beat) (ps := ["hand", "letters"]) l__law_beat e__law_beat kk__law_beat (fun _ _ _ _ _ _ us hl => match us, hl with | [_, _], _ => rfl)
  obtain ⟨d_law, F_law, B_law⟩ := fun_at (st := s_law) (ps := ["script"]) l_law e_law kk_law (fun _ _ _ _ _ _ us hl => match us, hl with | [_], _ => rfl)
  let a : Adr := { a_is_integer := a_is_integer, d_is_integer := d_is_integer, a_is_between := a_is_between, d_is_between := d_is_between, a_is_number := a_is_number, d_is_number := d_is_number, a_is_sized := a_is_sized, d_is_sized := d_is_sized, a_is_lot := a_is_lot, d_is_lot := d_is_lot, a_is_order := a_is_order, d_is_order := d_is_order, a_check_order := a_check_order, d_check_order := d_check_order, a_known := a_known, d_known := d_known, a_check_house := a_check_house, d_check_house := d_check_house, a_check_lot := a_check_lot, d_check_lot := d_check_lot, a_spread := a_spread, d_spread := d_spread, a_soonest := a_soonest, d_soonest := d_soonest, a_earliest := a_earliest, d_earliest := d_earliest, a_is_letter := a_is_letter, d_is_letter := d_is_letter, a_first_wrong := a_first_wrong, d_first_wrong := d_first_wrong, a_Schedule___init__ := a_Schedule___init__, d_Schedule___init__ := d_Schedule___init__, a_Schedule___eq__ := a_Schedule___eq__, d_Schedule___eq__ := d_Schedule___eq__, a__law_hand := a__law_hand, d__law_hand := d__law_hand, a__law_draw := a__law_draw, d__law_draw := d__law_draw, a__law_some := a__law_some, d__law_some := d__law_some, a__law_is := a__law_is, d__law_is := d__law_is, a__law_letters := a__law_letters, d__law_letters := d__law_letters, a__law_spread := a__law_spread, d__law_spread := d__law_spread, a__law_earliest := a__law_earliest, d__law_earliest := d__law_earliest, a__law_barred := a__law_barred, d__law_barred := d__law_barred, a__law_beat := a__law_beat, d__law_beat := d__law_beat, a_law := a_law, d_law := d_law, c_TalkError := 0, c_BadSchedule := 0, c_NoOrder := 0, c_NoNumber := 0, c_NoLetters := 0, c_NoHouse := 0, c_NoIndex := 0, c_Schedule := c_Schedule }
  have T : Txt K mg a := {
    f_is_integer := F_is_integer, b_is_integer := B_is_integer, kp_is_integer := kk_is_integer,
    mg_is_integer := PySem.W.mg_of X G n_is_integer,
    f_is_between := F_is_between, b_is_between := B_is_between, kp_is_between := kk_is_between,
    mg_is_between := PySem.W.mg_of X G n_is_between,
    f_is_number := F_is_number, b_is_number := B_is_number, kp_is_number := kk_is_number,
    mg_is_number := PySem.W.mg_of X G n_is_number,
    f_is_sized := F_is_sized, b_is_sized := B_is_sized, kp_is_sized := kk_is_sized,
    mg_is_sized := PySem.W.mg_of X G n_is_sized,
    f_is_lot := F_is_lot, b_is_lot := B_is_lot, kp_is_lot := kk_is_lot,
    mg_is_lot := PySem.W.mg_of X G n_is_lot,
    f_is_order := F_is_order, b_is_order := B_is_order, kp_is_order := kk_is_order,
    mg_is_order := PySem.W.mg_of X G n_is_order,
    f_check_order := F_check_order, b_check_order := B_check_order, kp_check_order := kk_check_order,
    mg_check_order := PySem.W.mg_of X G n_check_order,
    f_known := F_known, b_known := B_known, kp_known := kk_known,
    mg_known := PySem.W.mg_of X G n_known,
    f_check_house := F_check_house, b_check_house := B_check_house, kp_check_house := kk_check_house,
    mg_check_house := PySem.W.mg_of X G n_check_house,
    f_check_lot := F_check_lot, b_check_lot := B_check_lot, kp_check_lot := kk_check_lot,
    mg_check_lot := PySem.W.mg_of X G n_check_lot,
    f_spread := F_spread, b_spread := B_spread, kp_spread := kk_spread,
    mg_spread := PySem.W.mg_of X G n_spread,
    f_soonest := F_soonest, b_soonest := B_soonest, kp_soonest := kk_soonest,
    mg_soonest := PySem.W.mg_of X G n_soonest,
    f_earliest := F_earliest, b_earliest := B_earliest, kp_earliest := kk_earliest,
    mg_earliest := PySem.W.mg_of X G n_earliest,
    f_is_letter := F_is_letter, b_is_letter := B_is_letter, kp_is_letter := kk_is_letter,
    mg_is_letter := PySem.W.mg_of X G n_is_letter,
    f_first_wrong := F_first_wrong, b_first_wrong := B_first_wrong, kp_first_wrong := kk_first_wrong,
    mg_first_wrong := PySem.W.mg_of X G n_first_wrong,
    f_Schedule___init__ := F_Schedule___init__, b_Schedule___init__ := B_Schedule___init__, kp_Schedule___init__ := kk_Schedule___init__,
    f_Schedule___eq__ := F_Schedule___eq__, b_Schedule___eq__ := B_Schedule___eq__, kp_Schedule___eq__ := kk_Schedule___eq__,
    f__law_hand := F__law_hand, b__law_hand := B__law_hand, kp__law_hand := kk__law_hand,
    mg__law_hand := PySem.W.mg_of X G n__law_hand,
    f__law_draw := F__law_draw, b__law_draw := B__law_draw, kp__law_draw := kk__law_draw,
    mg__law_draw := PySem.W.mg_of X G n__law_draw,
    f__law_some := F__law_some, b__law_some := B__law_some, kp__law_some := kk__law_some,
    mg__law_some := PySem.W.mg_of X G n__law_some,
    f__law_is := F__law_is, b__law_is := B__law_is, kp__law_is := kk__law_is,
    mg__law_is := PySem.W.mg_of X G n__law_is,
    f__law_letters := F__law_letters, b__law_letters := B__law_letters, kp__law_letters := kk__law_letters,
    mg__law_letters := PySem.W.mg_of X G n__law_letters,
    f__law_spread := F__law_spread, b__law_spread := B__law_spread, kp__law_spread := kk__law_spread,
    mg__law_spread := PySem.W.mg_of X G n__law_spread,
    f__law_earliest := F__law_earliest, b__law_earliest := B__law_earliest, kp__law_earliest := kk__law_earliest,
    mg__law_earliest := PySem.W.mg_of X G n__law_earliest,
    f__law_barred := F__law_barred, b__law_barred := B__law_barred, kp__law_barred := kk__law_barred,
    mg__law_barred := PySem.W.mg_of X G n__law_barred,
    f__law_beat := F__law_beat, b__law_beat := B__law_beat, kp__law_beat := kk__law_beat,
    mg__law_beat := PySem.W.mg_of X G n__law_beat,
    f_law := F_law, b_law := B_law, kp_law := kk_law,
    mg_law := PySem.W.mg_of X G n_law,
    mg_Schedule := PySem.W.mg_of X G m_Schedule,
    mk_Schedule := ⟨mm_Schedule, n_Schedule___init__, mf_Schedule, mk_Schedule⟩,
    eq_Schedule := n_Schedule___eq__, eqf_Schedule := ef_Schedule,
    cl := fun c => ⟨pg_Schedule, hd_Schedule, po_Schedule, sa_Schedule⟩,
    insTy := fun c => ⟨⟨pg_Schedule, hd_Schedule, po_Schedule, sa_Schedule⟩, ca_Schedule, cg, ct, cm_Schedule⟩,
    na_many := fun c => na_many_Schedule,
    na_letters := fun c => na_letters_Schedule,
    k_MOST_OWNERS := ⟨_, PySem.W.mg_of X G q_MOST_OWNERS, ⟨_, rfl⟩⟩,
    k_LEAST_HOUSES := ⟨_, PySem.W.mg_of X G q_LEAST_HOUSES, ⟨_, rfl⟩⟩,
    k_MOST_HOUSES := ⟨_, PySem.W.mg_of X G q_MOST_HOUSES, ⟨_, rfl⟩⟩,
    k_MOST_LETTERS := ⟨_, PySem.W.mg_of X G q_MOST_LETTERS, ⟨_, rfl⟩⟩,
    k_MOST_BEAT := ⟨_, PySem.W.mg_of X G q_MOST_BEAT, ⟨_, rfl⟩⟩,
    b_all := PySem.W.mg_none_of X G b_all,
    b_bool := PySem.W.mg_none_of X G b_bool,
    b_enumerate := PySem.W.mg_none_of X G b_enumerate,
    b_int := PySem.W.mg_none_of X G b_int,
    b_isinstance := PySem.W.mg_none_of X G b_isinstance,
    b_len := PySem.W.mg_none_of X G b_len,
    b_list := PySem.W.mg_none_of X G b_list,
    b_max := PySem.W.mg_none_of X G b_max,
    b_min := PySem.W.mg_none_of X G b_min,
    b_range := PySem.W.mg_none_of X G b_range,
    b_tuple := PySem.W.mg_none_of X G b_tuple,
    b_zip := PySem.W.mg_none_of X G b_zip }
  exact ⟨a, T, PySem.W.mg_of X G n_law⟩
theorem walk {l : PySem.W.OpenLaw} {q : Program} {loose : List Str} {XP : (Str → Option Value) → Heap → Prop} {YP : World → Heap → Prop} {d : DefRec} {K : Params → PySem.W.Frag} (hn : l.most = some 63) (hdf : d.params.defaults = []) (hnm : d.name = "law")
    (hY : ∀ (w : World) (h : Heap), YP w h → (K w.params).In h)
    (F : ∀ (w : World) (mg : Str → Option Value) (h : Heap), (K w.params).In h → h.Ns mainGlobals mg → ∃ a : Adr, Txt (K w.params) mg a ∧ mg "law" = some (.ref a.a_law))
    (main : ∀ ns : List Int, ns.length ≤ 63 → ∃ bs, sem_law [.fz (.scr ns)] = .val (.bl true) bs) :
    PySem.W.WalkO q loose XP YP l.row.toRowW d [] (fun f vs => PySem.call f vs) := by
  refine Att.attach_call hn hdf fun w s₀ s₁ mg mb fa o pm cd doc a vs ns G Y ho hd hcd hmg hobj hints hlen hg => ?_
  have KX := hY w _ Y
  obtain ⟨ad, T, hlaw⟩ := F w mg _ KX G.T.g
  rw [hnm] at hmg
  obtain rfl : fa = ad.a_law := by
    rw [hmg] at hlaw
    injection (Option.some.inj hlaw)
  obtain ⟨oc, od, kV, dc, pm', an, cdv, ct, osl, efd, _, _⟩ := T.f_law.ex
  refine law_call (CX := L2.CX l.prog w) (k := 10) (fd := ad.d_law) (x := "script") (sp := spF (gm (K w.params) ad) 1 sem_law) KX G.T.g G.T.b G.T.builtins G.T.nolimit hg hobj hints (Nat.le_trans hlen (by decide)) ⟨rfl, by decide, by decide⟩ (fun base _ _ => ok_law T base) (fun s u => by rw [efd]; exact .of_eq rfl) (fun H hO hS => law_sp hO hS (main ns hlen)) fun H e s' z => ?_
  obtain ⟨_, _, _, _, _, _, _, _, _, _, _, _, z⟩ := z
  exact z
end Law

open PySem PySem.W PyProof.Rows in
set_option maxRecDepth 100000 in
set_option maxHeartbeats 0 in
theorem PySem.Challenge.cw_turnedtalk_k13_whole_knowing_spread_holds : PySem.Challenge.rw_turnedtalk_k13_whole_knowing_spread.Holds := by
  w_on; o_law; k_head; (case hw => w_witness2)
  k_fill
  refine Law.walk (l := PySem.Challenge.rw_turnedtalk_k13_whole_knowing_spread) rfl rfl (by decide +kernel) (fun w h Y => PySem.W.kIn_of Y) ?F Law.main
  case F =>
    intro w mg h KX G
    refine' Law.all_mk KX G ?m_Schedule ?n_is_integer ?l_is_integer ?e_is_integer ?kk_is_integer ?n_is_between ?l_is_between ?e_is_between ?kk_is_between ?n_is_number ?l_is_number ?e_is_number ?kk_is_number ?n_is_sized ?l_is_sized ?e_is_sized ?kk_is_sized ?n_is_lot ?l_is_lot ?e_is_lot ?kk_is_lot ?n_is_order ?l_is_order ?e_is_order ?kk_is_order ?n_check_order ?l_check_order ?e_check_order ?kk_check_order ?n_known ?l_known ?e_known ?kk_known ?n_check_house ?l_check_house ?e_check_house ?kk_check_house ?n_check_lot ?l_check_lot ?e_check_lot ?kk_check_lot ?n_spread ?l_spread ?e_spread ?kk_spread ?n_soonest ?l_soonest ?e_soonest ?kk_soonest ?n_earliest ?l_earliest ?e_earliest ?kk_earliest ?n_is_letter ?l_is_letter ?e_is_letter ?kk_is_letter ?n_first_wrong ?l_first_wrong ?e_first_wrong ?kk_first_wrong ?n_Schedule___init__ ?l_Schedule___init__ ?e_Schedule___init__ ?kk_Schedule___init__ ?n_Schedule___eq__ ?l_Schedule___eq__ ?e_Schedule___eq__ ?kk_Schedule___eq__ ?n__law_hand ?l__law_hand ?e__law_hand ?kk__law_hand ?n__law_draw ?l__law_draw ?e__law_draw ?kk__law_draw ?n__law_some ?l__law_some ?e__law_some ?kk__law_some ?n__law_is ?l__law_is ?e__law_is ?kk__law_is ?n__law_letters ?l__law_letters ?e__law_letters ?kk__law_letters ?n__law_spread ?l__law_spread ?e__law_spread ?kk__law_spread ?n__law_earliest ?l__law_earliest ?e__law_earliest ?kk__law_earliest ?n__law_barred ?l__law_barred ?e__law_barred ?kk__law_barred ?n__law_beat ?l__law_beat ?e__law_beat ?kk__law_beat ?n_law ?l_law ?e_law ?kk_law ?pg_Schedule ?hd_Schedule ?po_Schedule ?sa_Schedule ?ca_Schedule ?cm_Schedule ?mm_Schedule ?mf_Schedule ?mk_Schedule ?ef_Schedule ?na_many_Schedule ?na_letters_Schedule ?cg ?ct ?q_MOST_OWNERS ?q_LEAST_HOUSES ?q_MOST_HOUSES ?q_MOST_LETTERS ?q_MOST_BEAT ?b_all ?b_bool ?b_enumerate ?b_int ?b_isinstance ?b_len ?b_list ?b_max ?b_min ?b_range ?b_tuple ?b_zip
    (case m_Schedule => k_is)
    (case n_is_integer => k_is)
    (case l_is_integer => k_is)
    (case e_is_integer => k_is)
    (case kk_is_integer => k_is)
    (case n_is_between => k_is)
    (case l_is_between => k_is)
    (case e_is_between => k_is)
    (case kk_is_between => k_is)
    (case n_is_number => k_is)
    (case l_is_number => k_is)
    (case e_is_number => k_is)
    (case kk_is_number => k_is)
    (case n_is_sized => k_is)
    (case l_is_sized => k_is)
    (case e_is_sized => k_is)
    (case kk_is_sized => k_is)
    (case n_is_lot => k_is)
    (case l_is_lot => k_is)
    (case e_is_lot => k_is)
    (case kk_is_lot => k_is)
    (case n_is_order => k_is)
    (case l_is_order => k_is)
    (case e_is_order => k_is)
    (case kk_is_order => k_is)
    (case n_check_order => k_is)
    (case l_check_order => k_is)
    (case e_check_order => k_is)
    (case kk_check_order => k_is)
    (case n_known => k_is)
    (case l_known => k_is)
    (case e_known => k_is)
    (case kk_known => k_is)
    (case n_check_house => k_is)
    (case l_check_house => k_is)
    (case e_check_house => k_is)
    (case kk_check_house => k_is)
    (case n_check_lot => k_is)
    (case l_check_lot => k_is)
    (case e_check_lot => k_is)
    (case kk_check_lot => k_is)
    (case n_spread => k_is)
    (case l_spread => k_is)
    (case e_spread => k_is)
    (case kk_spread => k_is)
    (case n_soonest => k_is)
    (case l_soonest => k_is)
    (case e_soonest => k_is)
    (case kk_soonest => k_is)
    (case n_earliest => k_is)
    (case l_earliest => k_is)
    (case e_earliest => k_is)
    (case kk_earliest => k_is)
    (case n_is_letter => k_is)
    (case l_is_letter => k_is)
    (case e_is_letter => k_is)
    (case kk_is_letter => k_is)
    (case n_first_wrong => k_is)
    (case l_first_wrong => k_is)
    (case e_first_wrong => k_is)
    (case kk_first_wrong => k_is)
    (case n_Schedule___init__ => k_is)
    (case l_Schedule___init__ => k_is)
    (case e_Schedule___init__ => k_is)
    (case kk_Schedule___init__ => k_is)
    (case n_Schedule___eq__ => k_is)
    (case l_Schedule___eq__ => k_is)
    (case e_Schedule___eq__ => k_is)
    (case kk_Schedule___eq__ => k_is)
    (case n__law_hand => k_is)
    (case l__law_hand => k_is)
    (case e__law_hand => k_is)
    (case kk__law_hand => k_is)
    (case n__law_draw => k_is)
    (case l__law_draw => k_is)
    (case e__law_draw => k_is)
    (case kk__law_draw => k_is)
    (case n__law_some => k_is)
    (case l__law_some => k_is)
    (case e__law_some => k_is)
    (case kk__law_some => k_is)
    (case n__law_is => k_is)
    (case l__law_is => k_is)
    (case e__law_is => k_is)
    (case kk__law_is => k_is)
    (case n__law_letters => k_is)
    (case l__law_letters => k_is)
    (case e__law_letters => k_is)
    (case kk__law_letters => k_is)
    (case n__law_spread => k_is)
    (case l__law_spread => k_is)
    (case e__law_spread => k_is)
    (case kk__law_spread => k_is)
    (case n__law_earliest => k_is)
    (case l__law_earliest => k_is)
    (case e__law_earliest => k_is)
    (case kk__law_earliest => k_is)
    (case n__law_barred => k_is)
    (case l__law_barred => k_is)
    (case e__law_barred => k_is)
    (case kk__law_barred => k_is)
    (case n__law_beat => k_is)
    (case l__law_beat => k_is)
    (case e__law_beat => k_is)
    (case kk__law_beat => k_is)
    (case n_law => k_is)
    (case l_law => k_is)
    (case e_law => k_is)
    (case kk_law => k_is)
    (case pg_Schedule => k_is)
    (case hd_Schedule => k_is)
    (case po_Schedule => k_is)
    (case sa_Schedule => k_is)
    (case ca_Schedule => k_is)
    (case cm_Schedule => k_is)
    (case mm_Schedule => k_is)
    (case mf_Schedule => k_is)
    (case mk_Schedule => k_is)
    (case ef_Schedule => k_is)
    (case na_many_Schedule => k_is)
    (case na_letters_Schedule => k_is)
    (case cg => k_is)
    (case ct => k_is)
    (case q_MOST_OWNERS => k_is)
    (case q_LEAST_HOUSES => k_is)
    (case q_MOST_HOUSES => k_is)
    (case q_MOST_LETTERS => k_is)
    (case q_MOST_BEAT => k_is)
    (case b_all => k_is)
    (case b_bool => k_is)
    (case b_enumerate => k_is)
    (case b_int => k_is)
    (case b_isinstance => k_is)
    (case b_len => k_is)
    (case b_list => k_is)
    (case b_max => k_is)
    (case b_min => k_is)
    (case b_range => k_is)
    (case b_tuple => k_is)
    (case b_zip => k_is)
