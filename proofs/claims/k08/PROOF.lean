import PyProof.Rows.All
import Wide.All
import OpenK.AllK
import Wide.FinOn
import HandS.ForMost
import HandS.ForExc
import HandS.TryMany
import HandS.IsInst
import HandS.Zip
import HandS.Deep
import HandS.Walk
import HandS.Wide
import HandS.TupAny
import HandS.Conv
import HandS.More
import KE.GoesMore
import HandS.ExcInit
import HandS.ExcField
import HandS.ExcOwn
import HandS.WordsExc
import HandS.RaiseMore
import HandS.Small
import KE.KExcIs
import HandS.Style
import HandS.ExcIs
import PySem.Challenge.RW_turnedtalk_k08_whole_schedules_judged
set_option Elab.async false
set_option linter.all false
set_option maxRecDepth 100000
set_option maxHeartbeats 4000000
namespace FL
open PySem PySem.Spec PyProof.Rows L2

/-! ## data -/
inductive D where
  | non | bl (b : Bool) | int (i : Int) | str (s : Str)
  | tup (xs : List D) | lst (xs : List D)
  | ins (c : Nat) (ns : List Str) (xs : List D)
  | scr (ns : List Int)
  | ty (n : String) | cls (c : Nat) | raw (n : Nat) | emp
structure Gm where
  K : PySem.W.Frag
  cls : Nat → Addr
  xcl : Nat → Addr
  raw : Nat → V
mutual
def Rep (g : Gm) (F : Hp) : D → V → Prop
  | .non, v => v = .non
  | .bl b, v => v = .bl b
  | .int i, v => v = .int i
  | .str s, v => v = .str s
  | .tup ds, v => ∃ a xs, v = .ref a ∧ SqT g.K F a xs ∧ RepL g F ds xs
  | .lst ds, v => ∃ a xs, v = .ref a ∧ F a = some (.lst xs) ∧ RepL g F ds xs
  | .scr ns, v => ∃ a, v = .ref a ∧ SqL g.K F a (ns.map V.int)
  | .ty n, v => v = .ty n
  | .cls c, v => v = .ref (g.cls c)
  | .ins c ns ds, v => ∃ a dx xs, v = .ref a ∧ F a = some (.ins (g.cls c) dx (ns.zip xs)) ∧ ns.length = xs.length ∧ RepL g F ds xs
  | .raw n, v => v = g.raw n
  | .emp, v => ∃ a, v = .ref a ∧ F a = some (.dK [])
def RepL (g : Gm) (F : Hp) : List D → List V → Prop
  | [], vs => vs = []
  | d :: ds, vs => ∃ x xs, vs = x :: xs ∧ Rep g F d x ∧ RepL g F ds xs
end
theorem same_t {K : PySem.W.Frag} {H H' : Hp} {a : Addr} {xs : List V} (e : Same H H') (h : SqT K H a xs) : SqT K H' a xs := by
  rcases h with (h | ⟨o, h⟩) | h
  · exact .inl (.inl (e _ _ h))
  · exact .inl (.inr ⟨o, e _ _ h⟩)
  · exact .inr h
mutual
theorem Rep.mono {g : Gm} {F F' : Hp} (s : Same F F') : ∀ {d : D} {v : V}, Rep g F d v → Rep g F' d v
  | .non, _, h => h
  | .bl _, _, h => h
  | .int _, _, h => h
  | .str _, _, h => h
  | .tup _, _, h => by
    obtain ⟨a, xs, e, q, r⟩ := h
    exact ⟨a, xs, e, same_t s q, RepL.mono s r⟩
  | .lst _, _, h => by
    obtain ⟨a, xs, e, q, r⟩ := h
    exact ⟨a, xs, e, s _ _ q, RepL.mono s r⟩
  | .scr _, _, h => by
    obtain ⟨a, e, q⟩ := h
    exact ⟨a, e, s.seq q⟩
  | .ty _, _, h => h
  | .cls _, _, h => h
  | .ins _ _ _, _, h => by
    obtain ⟨a, dx, xs, e, q, l, r⟩ := h
    exact ⟨a, dx, xs, e, s _ _ q, l, RepL.mono s r⟩
  | .raw _, _, h => h
  | .emp, _, h => by
    obtain ⟨a, e, q⟩ := h
    exact ⟨a, e, s _ _ q⟩
theorem RepL.mono {g : Gm} {F F' : Hp} (s : Same F F') : ∀ {ds : List D} {vs : List V}, RepL g F ds vs → RepL g F' ds vs
  | [], _, h => h
  | d :: ds, _, h => by
    obtain ⟨x, xs, e, r, t⟩ := h
    exact ⟨x, xs, e, Rep.mono s r, RepL.mono s t⟩
end
section
variable {g : Gm} {F : Hp}
theorem RepL.length : ∀ {ds : List D} {vs : List V}, RepL g F ds vs → ds.length = vs.length
  | [], _, h => by cases (show _ = [] from h); rfl
  | d :: ds, _, h => by
    obtain ⟨x, xs, rfl, _, t⟩ := h
    simp [RepL.length t]
theorem RepL.nil : RepL g F [] [] := rfl
theorem RepL.cons {d : D} {ds : List D} {v : V} {vs : List V} (h : Rep g F d v) (t : RepL g F ds vs) : RepL g F (d :: ds) (v :: vs) := ⟨v, vs, rfl, h, t⟩
theorem RepL.get : ∀ {ds : List D} {vs : List V} {i : Nat} {d : D}, RepL g F ds vs → ds[i]? = some d → ∃ v, vs[i]? = some v ∧ Rep g F d v
  | [], _, _, _, _, e => by simp at e
  | d :: ds, _, 0, _, h, e => by
    obtain ⟨x, xs, rfl, r, _⟩ := h
    simp at e; subst e
    exact ⟨x, rfl, r⟩
  | d :: ds, _, i + 1, _, h, e => by
    obtain ⟨x, xs, rfl, _, t⟩ := h
    obtain ⟨v, a, b⟩ := RepL.get (i := i) t (by simpa using e)
    exact ⟨v, by simpa using a, b⟩
theorem RepL.append : ∀ {ds es : List D} {vs ws : List V}, RepL g F ds vs → RepL g F es ws → RepL g F (ds ++ es) (vs ++ ws)
  | [], _, _, _, h, k => by cases (show _ = [] from h); exact k
  | d :: ds, _, _, _, h, k => by
    obtain ⟨x, xs, rfl, r, t⟩ := h
    exact ⟨x, _, rfl, r, RepL.append t k⟩
theorem RepL.set : ∀ {ds : List D} {vs : List V} {i : Nat} {d : D} {v : V}, RepL g F ds vs → Rep g F d v → RepL g F (ds.set i d) (vs.set i v)
  | [], _, _, _, _, h, _ => by cases (show _ = [] from h); exact rfl
  | _ :: ds, _, 0, _, _, h, k => by
    obtain ⟨x, xs, rfl, r, t⟩ := h
    exact ⟨_, xs, rfl, k, t⟩
  | _ :: ds, _, i + 1, _, _, h, k => by
    obtain ⟨x, xs, rfl, r, t⟩ := h
    exact ⟨x, _, rfl, r, RepL.set t k⟩
theorem RepL.take : ∀ {ds : List D} {vs : List V} (n : Nat), RepL g F ds vs → RepL g F (ds.take n) (vs.take n)
  | _, _, 0, _ => rfl
  | [], _, n + 1, h => by cases (show _ = [] from h); exact rfl
  | _ :: ds, _, n + 1, h => by
    obtain ⟨x, xs, rfl, r, t⟩ := h
    exact ⟨x, _, rfl, r, RepL.take n t⟩
theorem RepL.drop : ∀ {ds : List D} {vs : List V} (n : Nat), RepL g F ds vs → RepL g F (ds.drop n) (vs.drop n)
  | _, _, 0, h => h
  | [], _, n + 1, h => by cases (show _ = [] from h); exact rfl
  | _ :: ds, _, n + 1, h => by
    obtain ⟨x, xs, rfl, r, t⟩ := h
    exact RepL.drop n t
theorem RepL.rep {ds : List D} {vs : List V} (h : RepL g F ds vs) : ∀ k : Nat, RepL g F (List.replicate k ds).flatten (List.replicate k vs).flatten
  | 0 => rfl
  | k + 1 => by
    rw [List.replicate_succ, List.replicate_succ, List.flatten_cons, List.flatten_cons]
    exact h.append (RepL.rep h k)
theorem RepL.dropLast : ∀ {ds : List D} {vs : List V}, RepL g F ds vs → RepL g F ds.dropLast vs.dropLast := fun {ds vs} h => by
  rw [List.dropLast_eq_take, List.dropLast_eq_take, h.length]
  exact h.take _
theorem RepL.reverse : ∀ {ds : List D} {vs : List V}, RepL g F ds vs → RepL g F ds.reverse vs.reverse
  | [], _, h => by cases (show _ = [] from h); exact rfl
  | d :: ds, _, h => by
    obtain ⟨x, xs, rfl, r, t⟩ := h
    rw [List.reverse_cons, List.reverse_cons]
    exact (RepL.reverse t).append ⟨_, _, rfl, r, rfl⟩
theorem RepL.ints : ∀ ns : List Int, RepL g F (ns.map D.int) (ns.map V.int)
  | [] => rfl
  | n :: ns => ⟨_, _, rfl, rfl, RepL.ints ns⟩
end

/-! ## slots -/
inductive Sl where
  | no | fz (d : D) | own (d : D) | bor (k : Nat) (d : D)
def Sl.cell : Sl → Option D
  | .own d => some d
  | .bor _ d => some d
  | _ => none
def Sl.put : Sl → D → Sl
  | .own _, d => .own d
  | .bor k _, d => .bor k d
  | s, _ => s
def Sl.cont : Sl → Option D
  | .fz d => some d
  | .own d => some d
  | .bor _ d => some d
  | .no => none
abbrev Nv := List Sl
/-- what stands in an owned cell -/
def OwnO (g : Gm) (F : Hp) : D → HO → Prop
  | .lst ds, o => ∃ xs, o = .lst xs ∧ RepL g F ds xs
  | .ins c ns ds, o => ∃ dx xs, o = .ins (g.cls c) dx (ns.zip xs) ∧ ns.length = xs.length ∧ RepL g F ds xs
  | _, _ => False
def OwnAt (g : Gm) (G F H : Hp) (p : Addr) (d : D) : Prop := F p = none ∧ G p = none ∧ ∃ o, H p = some o ∧ OwnO g F d o
theorem OwnO.mono {g : Gm} {F F' : Hp} (s : Same F F') {d : D} {o : HO} (h : OwnO g F d o) : OwnO g F' d o := by
  cases d with
  | lst ds => obtain ⟨xs, e, r⟩ := h; exact ⟨xs, e, r.mono s⟩
  | ins c ns ds => obtain ⟨dx, xs, e, l, r⟩ := h; exact ⟨dx, xs, e, l, r.mono s⟩
  | _ => exact h.elim
theorem OwnO.rep {g : Gm} {F : Hp} {d : D} {o : HO} {p : Addr} (h : OwnO g F d o) (q : F p = none) : Rep g (upd F p o) d (.ref p) := by
  have s : Same F (upd F p o) := fun b u e => by rw [upd_ne (ne_of_none e q)]; exact e
  cases d with
  | lst ds => obtain ⟨xs, rfl, r⟩ := h; exact ⟨p, xs, rfl, upd_same, r.mono s⟩
  | ins c ns ds => obtain ⟨dx, xs, rfl, l, r⟩ := h; exact ⟨p, dx, xs, rfl, upd_same, l, r.mono s⟩
  | _ => exact h.elim
theorem Same.new {H : Hp} {p : Addr} {o : HO} (h : H p = none) : Same H (upd H p o) := fun b u e => by rw [upd_ne (ne_of_none e h)]; exact e

/-- what a slot's new content asks -/
def SlNew (g : Gm) (ρ : Nat → Addr) (G F H : Hp) (p0 : Addr) : Sl → Option (Option V) → Prop
  | .no, _ => True
  | .fz d, x => ∃ v, x = some (some v) ∧ Rep g F d v
  | .own d, x => x = some (some (.ref p0)) ∧ OwnAt g G F H p0 d
  | .bor k d, x => ρ k = p0 ∧ x = some (some (.ref p0)) ∧ OwnAt g G F H p0 d
structure StOk (g : Gm) (ρ : Nat → Addr) (G : Hp) (E : Nv) (F : Hp) (σ : L2.St) (H : Hp) : Prop where
  sf : Same F H
  sg : Same G H
  dj : ∀ q o, G q = some o → F q = none
  len : E.length = σ.length
  fz : ∀ (i : Nat) d, E[i]? = some (.fz d) → ∃ v, σ[i]? = some (some v) ∧ Rep g F d v
  ow : ∃ ps : Nat → Addr, (∀ (i : Nat) s d, E[i]? = some s → s.cell = some d → σ[i]? = some (some (.ref (ps i))) ∧ OwnAt g G F H (ps i) d) ∧
    (∀ (i k : Nat) d, E[i]? = some (.bor k d) → ps i = ρ k) ∧
    (∀ (i j : Nat) s t d e, E[i]? = some s → s.cell = some d → E[j]? = some t → t.cell = some e → ps i = ps j → i = j)
section
variable {g : Gm} {ρ : Nat → Addr} {G G' F F' H H' : Hp} {E : Nv} {σ σ' : L2.St} {i : Nat} {p : Addr} {o : HO} {d : D} {s : Sl}
/-- all is kept but where slot i is -/
theorem StOk.slot (old : StOk g ρ G E F σ H) (hF : Same F F') (sf : Same F' H') (sg : Same G' H') (dj : ∀ q o, G' q = some o → F' q = none) (hl : σ'.length = σ.length) (hσ : ∀ j, j ≠ i → σ'[j]? = σ[j]?) (p0 : Addr)
    (keep : ∀ (j : Nat) t d p, j ≠ i → E[j]? = some t → t.cell = some d → σ[j]? = some (some (.ref p)) → OwnAt g G F H p d →
      (∀ t' d' p', E[i]? = some t' → t'.cell = some d' → σ[i]? = some (some (.ref p')) → p ≠ p') → OwnAt g G' F' H' p d ∧ (s.cell ≠ none → p ≠ p0))
    (new : i < E.length → SlNew g ρ G' F' H' p0 s σ'[i]?) : StOk g ρ G' (E.set i s) F' σ' H' := by
  obtain ⟨ps, h1, h2, h3⟩ := old.ow
  have dist : ∀ (j : Nat) t d, j ≠ i → E[j]? = some t → t.cell = some d → ∀ t' d' p', E[i]? = some t' → t'.cell = some d' → σ[i]? = some (some (.ref p')) → ps j ≠ p' := by
    intro j t d hj e1 e2 t' d' p' e3 e4 e5 q
    obtain ⟨e6, _⟩ := h1 i t' d' e3 e4
    rw [e5] at e6
    have e7 : p' = ps i := by injection (Option.some.inj (Option.some.inj e6))
    exact hj (h3 j i t t' d d' e1 e2 e3 e4 (q.trans e7))
  have kp : ∀ (j : Nat) t d, j ≠ i → E[j]? = some t → t.cell = some d → OwnAt g G' F' H' (ps j) d ∧ (s.cell ≠ none → ps j ≠ p0) := fun j t d hj e1 e2 =>
    keep j t d (ps j) hj e1 e2 (h1 j t d e1 e2).1 (h1 j t d e1 e2).2 (dist j t d hj e1 e2)
  have lt : ∀ {j : Nat} {t : Sl}, (E.set i s)[j]? = some t → j < E.length := fun {j t} e => by
    have := (List.getElem?_eq_some_iff.mp e).1
    simpa using this
  have at_i : ∀ {t : Sl}, (E.set i s)[i]? = some t → t = s := fun {t} e => by
    have hi := lt e
    rw [List.getElem?_set_self hi] at e
    exact (Option.some.inj e).symm
  refine ⟨sf, sg, dj, by rw [List.length_set, hl]; exact old.len, fun j d e => ?_, fun j => if j = i then p0 else ps j, fun j t d e c => ?_, fun j k d e => ?_, fun j k t u d e e1 c1 e2 c2 q => ?_⟩
  · by_cases hj : j = i
    · subst hj
      have hi := lt e
      have hs := at_i e
      have n := new hi
      subst hs
      exact n
    · rw [List.getElem?_set_ne (Ne.symm hj)] at e
      obtain ⟨v, a, b⟩ := old.fz j d e
      exact ⟨v, by rw [hσ j hj]; exact a, b.mono hF⟩
  · by_cases hj : j = i
    · subst hj
      have n := new (lt e)
      have hs := at_i e
      subst hs
      simp only [if_true]
      cases t with
      | no => cases c
      | fz _ => cases c
      | own x => cases c; exact n
      | bor k x => cases c; exact n.2
    · rw [List.getElem?_set_ne (Ne.symm hj)] at e
      simp only [if_neg hj]
      exact ⟨by rw [hσ j hj]; exact (h1 j t d e c).1, (kp j t d hj e c).1⟩
  · by_cases hj : j = i
    · subst hj
      have n := new (lt e)
      have hs := at_i e
      subst hs
      simp only [if_true]
      exact n.1.symm
    · rw [List.getElem?_set_ne (Ne.symm hj)] at e
      simp only [if_neg hj]
      exact h2 j k d e
  · by_cases hj : j = i <;> by_cases hk : k = i
    · rw [hj, hk]
    · rw [List.getElem?_set_ne (Ne.symm hk)] at e2
      subst hj
      have hs := at_i e1
      subst hs
      simp only [if_true, if_neg hk] at q
      exact absurd q.symm ((kp k u e hk e2 c2).2 (by rw [c1]; simp))
    · rw [List.getElem?_set_ne (Ne.symm hj)] at e1
      subst hk
      have hs := at_i e2
      subst hs
      simp only [if_true, if_neg hj] at q
      exact absurd q ((kp j t d hj e1 c1).2 (by rw [c2]; simp))
    · rw [List.getElem?_set_ne (Ne.symm hj)] at e1
      rw [List.getElem?_set_ne (Ne.symm hk)] at e2
      simp only [if_neg hj, if_neg hk] at q
      exact h3 j k t u d e e1 c1 e2 c2 q
/-- nothing of the slots changes -/
theorem StOk.same (old : StOk g ρ G E F σ H) (hF : Same F F') (sf : Same F' H') (sg : Same G' H') (dj : ∀ q o, G' q = some o → F' q = none)
    (keep : ∀ p d, OwnAt g G F H p d → OwnAt g G' F' H' p d) : StOk g ρ G' E F' σ H' := by
  obtain ⟨ps, h1, h2, h3⟩ := old.ow
  exact ⟨sf, sg, dj, old.len, fun i d e => let ⟨v, a, b⟩ := old.fz i d e; ⟨v, a, b.mono hF⟩, ps, fun i s d e c => ⟨(h1 i s d e c).1, keep _ _ (h1 i s d e c).2⟩, h2, h3⟩
theorem StOk.fF (st : StOk g ρ G E F σ H) (h : H p = none) : F p = none := st.sf.free h
theorem StOk.fG (st : StOk g ρ G E F σ H) (h : H p = none) : G p = none := st.sg.free h
/-- a new frozen object -/
theorem StOk.grow (st : StOk g ρ G E F σ H) (h : H p = none) (o : HO) : StOk g ρ G E (upd F p o) σ (upd H p o) := by
  have f := st.fF h
  have gn := st.fG h
  refine st.same (Same.new f) (fun b u e => ?_) (fun b u e => ?_) (fun q u e => ?_) fun q d ⟨a, b, u, c, e⟩ => ?_
  · by_cases hb : b = p
    · subst hb; rw [upd_same] at e ⊢; exact e
    · rw [upd_ne hb] at e ⊢; exact st.sf _ _ e
  · rw [upd_ne (ne_of_none e gn)]; exact st.sg _ _ e
  · rw [upd_ne (ne_of_none e gn)]; exact st.dj _ _ e
  · have n : q ≠ p := ne_of_none c h
    exact ⟨by rw [upd_ne n]; exact a, b, u, by rw [upd_ne n]; exact c, e.mono (Same.new f)⟩
/-- a new object of nobody -/
theorem StOk.temp (st : StOk g ρ G E F σ H) (h : H p = none) (o : HO) : StOk g ρ (upd G p o) E F σ (upd H p o) := by
  have f := st.fF h
  have gn := st.fG h
  refine st.same (Same.refl F) (fun b u e => ?_) (fun b u e => ?_) (fun q u e => ?_) fun q d ⟨a, b, u, c, e⟩ => ?_
  · rw [upd_ne (ne_of_none e f)]; exact st.sf _ _ e
  · by_cases hb : b = p
    · subst hb; rw [upd_same] at e ⊢; exact e
    · rw [upd_ne hb] at e ⊢; exact st.sg _ _ e
  · by_cases hb : q = p
    · subst hb; exact f
    · rw [upd_ne hb] at e; exact st.dj _ _ e
  · have n : q ≠ p := ne_of_none c h
    exact ⟨a, by rw [upd_ne n]; exact b, u, by rw [upd_ne n]; exact c, e⟩
/-- nobody's object is frozen -/
theorem StOk.freeze (st : StOk g ρ (upd G p o) E F σ H) (gn : G p = none) : StOk g ρ G E (upd F p o) σ H := by
  have f : F p = none := st.dj p o upd_same
  have hp : H p = some o := st.sg p o upd_same
  refine st.same (Same.new f) (fun b u e => ?_) (fun b u e => ?_) (fun q u e => ?_) fun q d ⟨a, b, u, c, e⟩ => ?_
  · by_cases hb : b = p
    · subst hb; rw [upd_same] at e; rw [← e]; exact hp
    · rw [upd_ne hb] at e; exact st.sf _ _ e
  · exact st.sg _ _ (by rw [upd_ne (ne_of_none e gn)]; exact e)
  · rw [upd_ne (ne_of_none e gn)]; exact st.dj q u (by rw [upd_ne (ne_of_none e gn)]; exact e)
  · have n : q ≠ p := fun z => by rw [z, upd_same] at b; cases b
    exact ⟨by rw [upd_ne n]; exact a, by rw [upd_ne n] at b; exact b, u, c, e.mono (Same.new f)⟩
/-- nobody's object, forgotten -/
theorem StOk.untemp (st : StOk g ρ (upd G p o) E F σ H) (gn : G p = none) : StOk g ρ G E F σ H := by
  refine st.same (Same.refl F) st.sf (fun b u e => st.sg _ _ (by rw [upd_ne (ne_of_none e gn)]; exact e)) (fun q u e => st.dj q u (by rw [upd_ne (ne_of_none e gn)]; exact e)) fun q d ⟨a, b, u, c, e⟩ => ?_
  have n : q ≠ p := fun z => by rw [z, upd_same] at b; cases b
  exact ⟨a, by rw [upd_ne n] at b; exact b, u, c, e⟩
/-- nobody's object is written -/
theorem StOk.rewrite {o' : HO} (st : StOk g ρ (upd G p o) E F σ H) (gn : G p = none) : StOk g ρ (upd G p o') E F σ (upd H p o') := by
  have f : F p = none := st.dj p o upd_same
  refine st.same (Same.refl F) (fun b u e => ?_) (fun b u e => ?_) (fun q u e => ?_) fun q d ⟨a, b, u, c, e⟩ => ?_
  · rw [upd_ne (ne_of_none e f)]; exact st.sf _ _ e
  · by_cases hb : b = p
    · subst hb; rw [upd_same] at e ⊢; exact e
    · rw [upd_ne hb] at e ⊢; exact st.sg _ _ (by rw [upd_ne hb]; exact e)
  · by_cases hb : q = p
    · subst hb; exact f
    · rw [upd_ne hb] at e; exact st.dj q u (by rw [upd_ne hb]; exact e)
  · have n : q ≠ p := fun z => by rw [z, upd_same] at b; cases b
    exact ⟨a, by rw [upd_ne n] at b ⊢; exact b, u, by rw [upd_ne n]; exact c, e⟩
/-- nobody's object comes to a slot -/
theorem StOk.take (st : StOk g ρ (upd G p o) E F σ H) (gn : G p = none) (ow : OwnO g F d o) : StOk g ρ G (E.set i (.own d)) F (σ.set i (some (.ref p))) H := by
  have f : F p = none := st.dj p o upd_same
  have hp : H p = some o := st.sg p o upd_same
  refine st.slot (Same.refl F) st.sf (fun b u e => st.sg _ _ (by rw [upd_ne (ne_of_none e gn)]; exact e)) (fun q u e => st.dj q u (by rw [upd_ne (ne_of_none e gn)]; exact e)) (by simp) (fun j hj => List.getElem?_set_ne (Ne.symm hj)) p (fun j t d q hj e1 e2 e3 ⟨a, b, u, c, e⟩ _ => ?_) fun hi => ⟨?_, f, gn, o, hp, ow⟩
  · have n : q ≠ p := fun z => by rw [z, upd_same] at b; cases b
    exact ⟨⟨a, by rw [upd_ne n] at b; exact b, u, c, e⟩, fun _ => n⟩
  · exact List.getElem?_set_self (by rw [← st.len]; exact hi)
/-- a frozen thing comes to a slot -/
theorem StOk.store {v : V} (st : StOk g ρ G E F σ H) (r : Rep g F d v) : StOk g ρ G (E.set i (.fz d)) F (σ.set i (some v)) H := by
  refine st.slot (Same.refl F) st.sf st.sg st.dj (by simp) (fun j hj => List.getElem?_set_ne (Ne.symm hj)) 0 (fun j t d q hj e1 e2 e3 ow _ => ⟨ow, fun z => absurd rfl z⟩) fun hi => ⟨v, ?_, r⟩
  exact List.getElem?_set_self (by rw [← st.len]; exact hi)
/-- a slot forgotten -/
theorem StOk.drop (st : StOk g ρ G E F σ H) (i : Nat) : StOk g ρ G (E.set i .no) F σ H :=
  st.slot (Same.refl F) st.sf st.sg st.dj rfl (fun _ _ => rfl) 0 (fun j t d q hj e1 e2 e3 ow _ => ⟨ow, fun z => absurd rfl z⟩) fun _ => trivial
/-- where a cell is -/
theorem StOk.at (st : StOk g ρ G E F σ H) (e : E[i]? = some s) (c : s.cell = some d) : ∃ p, σ[i]? = some (some (.ref p)) ∧ OwnAt g G F H p d := by
  obtain ⟨ps, h1, h2, h3⟩ := st.ow
  exact ⟨ps i, h1 i s d e c⟩
/-- an owned slot is given up, its object nobody's -/
theorem StOk.give (st : StOk g ρ G E F σ H) (e : E[i]? = some s) (c : s.cell = some d) (hσ : σ[i]? = some (some (.ref p))) (hp : H p = some o) : StOk g ρ (upd G p o) (E.set i .no) F σ H ∧ G p = none ∧ OwnO g F d o := by
  obtain ⟨p', e1, f, gn, u, hu, ow⟩ := st.at e c
  rw [hσ] at e1
  have : p = p' := by injection (Option.some.inj (Option.some.inj e1))
  subst this
  rw [hp] at hu; cases hu
  refine ⟨st.slot (Same.refl F) st.sf (fun b u e => ?_) (fun q u e => ?_) rfl (fun _ _ => rfl) 0 (fun j t d q hj e1 e2 e3 ow' ne => ⟨?_, fun z => absurd rfl z⟩) fun _ => trivial, gn, ow⟩
  · by_cases hb : b = p
    · subst hb; rw [upd_same] at e; rw [← e]; exact hp
    · rw [upd_ne hb] at e; exact st.sg _ _ e
  · by_cases hb : q = p
    · subst hb; exact f
    · rw [upd_ne hb] at e; exact st.dj _ _ e
  · have n : q ≠ p := ne _ _ p e c hσ
    obtain ⟨a, b, r⟩ := ow'
    exact ⟨a, by rw [upd_ne n]; exact b, r⟩
/-- an owned slot frozen -/
theorem StOk.demote (st : StOk g ρ G E F σ H) (e : E[i]? = some (.own d)) : ∃ v F', σ[i]? = some (some v) ∧ Same F F' ∧ Rep g F' d v ∧ StOk g ρ G (E.set i (.fz d)) F' σ H := by
  obtain ⟨p, e1, f, gn, o, hp, ow⟩ := st.at e rfl
  obtain ⟨st1, _, _⟩ := st.give e rfl e1 hp
  have st2 := st1.freeze gn
  have r : Rep g (upd F p o) d (.ref p) := ow.rep f
  refine ⟨.ref p, upd F p o, e1, Same.new f, r, ?_⟩
  have st3 := st2.store (i := i) r
  have hi : i < σ.length := (List.getElem?_eq_some_iff.mp e1).1
  have e2 : σ.set i (some (.ref p)) = σ := by
    apply List.ext_getElem?
    intro j
    by_cases hj : i = j
    · subst hj; rw [List.getElem?_set_self hi, e1]
    · rw [List.getElem?_set_ne hj]
  rw [e2, List.set_set] at st3
  exact st3
/-- an owned cell is written -/
theorem StOk.write {o' : HO} {d' : D} (st : StOk g ρ G E F σ H) (e : E[i]? = some s) (c : s.cell = some d) (hσ : σ[i]? = some (some (.ref p))) (ow' : OwnO g F d' o') : StOk g ρ G (E.set i (s.put d')) F σ (upd H p o') := by
  obtain ⟨p', e1, f, gn, o, hp, ow⟩ := st.at e c
  rw [hσ] at e1
  have : p = p' := by injection (Option.some.inj (Option.some.inj e1))
  subst this
  have bor : ∀ k x, s = .bor k x → ρ k = p := by
    intro k x z
    obtain ⟨ps, h1, h2, h3⟩ := st.ow
    have q := (h1 i s d e c).1
    rw [hσ] at q
    have q2 : p = ps i := by injection (Option.some.inj (Option.some.inj q))
    rw [q2, h2 i k x (by rw [← z]; exact e)]
  refine st.slot (Same.refl F) (fun b u e => ?_) (fun b u e => ?_) st.dj rfl (fun _ _ => rfl) p (fun j t d q hj e1 e2 e3 ow' ne => ?_) fun hi => ?_
  · rw [upd_ne (ne_of_none e f)]; exact st.sf _ _ e
  · rw [upd_ne (ne_of_none e gn)]; exact st.sg _ _ e
  · have n : q ≠ p := ne _ _ p e c hσ
    obtain ⟨a, b, u, x, r⟩ := ow'
    exact ⟨⟨a, b, u, by rw [upd_ne n]; exact x, r⟩, fun _ => n⟩
  · cases s with
    | no => cases c
    | fz _ => cases c
    | own x => exact ⟨hσ, f, gn, o', upd_same, ow'⟩
    | bor k x => exact ⟨bor k x rfl, hσ, f, gn, o', upd_same, ow'⟩
/-- other slots: kept, forgotten, or frozen things -/
theorem StOk.reslot {E' : Nv} (st : StOk g ρ G E F σ H) (hl : E'.length = σ'.length)
    (h : ∀ (i : Nat) s, E'[i]? = some s → (E[i]? = some s ∧ σ'[i]? = σ[i]?) ∨ s = .no ∨ ∃ d v, s = .fz d ∧ σ'[i]? = some (some v) ∧ Rep g F d v) : StOk g ρ G E' F σ' H := by
  obtain ⟨ps, h1, h2, h3⟩ := st.ow
  have cellE : ∀ {i : Nat} {s : Sl} {d : D}, E'[i]? = some s → s.cell = some d → E[i]? = some s ∧ σ'[i]? = σ[i]? := fun {i s d} e c => by
    rcases h i s e with z | z | ⟨x, v, z, _⟩
    · exact z
    · rw [z] at c; cases c
    · rw [z] at c; cases c
  refine ⟨st.sf, st.sg, st.dj, hl, fun i d e => ?_, ps, fun i s d e c => ?_, fun i k d e => h2 i k d (cellE (d := d) e rfl).1, fun i j s t d e e1 c1 e2 c2 q => h3 i j s t d e (cellE e1 c1).1 c1 (cellE e2 c2).1 c2 q⟩
  · rcases h i _ e with ⟨z, y⟩ | z | ⟨x, v, z, y, r⟩
    · obtain ⟨v, a, b⟩ := st.fz i d z
      exact ⟨v, by rw [y]; exact a, b⟩
    · cases z
    · cases z; exact ⟨v, y, r⟩
  · obtain ⟨a, b⟩ := cellE e c
    rw [b]
    exact h1 i s d a c
/-- a slot set to what it is -/
theorem StOk.len_lt (st : StOk g ρ G E F σ H) (e : E[i]? = some s) : i < σ.length := by
  rw [← st.len]; exact (List.getElem?_eq_some_iff.mp e).1
end
end FL

namespace FL
open PySem PySem.Spec PyProof.Rows L2

/-! ## outcomes -/
inductive R (α : Type) where
  | val (a : α) (E : Nv) | exc (c : Nat) (fs : Option (Str × D)) (E : Nv) | bad
def R.bind {α β : Type} : R α → (α → Nv → R β) → R β
  | .val a E, k => k a E
  | .exc c f E, _ => .exc c f E
  | .bad, _ => .bad
theorem R.bind_val {α β : Type} {a : α} {E : Nv} {k : α → Nv → R β} : (R.val a E).bind k = k a E := rfl
theorem R.bind_exc {α β : Type} {c : Nat} {f : Option (Str × D)} {E : Nv} {k : α → Nv → R β} : (R.exc c f E).bind k = R.exc c f E := rfl
theorem R.bind_bad {α β : Type} {k : α → Nv → R β} : (R.bad : R α).bind k = R.bad := rfl
/-- some or bad -/
def R.some {α : Type} : Option α → Nv → R α
  | .some a, E => .val a E
  | .none, _ => .bad
/-- how a statement ends -/
inductive Fl where
  | nx | rt (d : D) | rn (d : D) | bk | ct
/-- an operand: a value, or a slot that is only looked at (or lent) -/
inductive Ar where
  | v (d : D) | pk (i : Nat)
def Ar.get (E : Nv) : Ar → Option D
  | .v d => some d
  | .pk i => match E[i]? with
    | some s => s.cont
    | none => none
def XRep (g : Gm) (F : Hp) : Option (Str × D) → Option Addr → Prop
  | none, d => d = none
  | some (n, x), d => ∃ a v, d = some a ∧ F a = some (.xd [(n, v)]) ∧ Rep g F x v
theorem XRep.mono {g : Gm} {F F' : Hp} (s : Same F F') : ∀ {f : Option (Str × D)} {d : Option Addr}, XRep g F f d → XRep g F' f d
  | none, _, h => h
  | some (n, x), _, ⟨a, v, e, q, r⟩ => ⟨a, v, e, s _ _ q, r.mono s⟩
def ArOk (g : Gm) (F : Hp) (σ : L2.St) : Ar → V → Prop
  | .v d, x => Rep g F d x
  | .pk i, x => σ[i]? = some (some x)
theorem ArOk.mono {g : Gm} {F F' : Hp} {σ : L2.St} (s : Same F F') : ∀ {a : Ar} {x : V}, ArOk g F σ a x → ArOk g F' σ a x
  | .v _, _, h => Rep.mono s h
  | .pk _, _, h => h
def ArsOk (g : Gm) (F : Hp) (σ : L2.St) : List Ar → List V → Prop
  | [], vs => vs = []
  | a :: as, vs => ∃ x xs, vs = x :: xs ∧ ArOk g F σ a x ∧ ArsOk g F σ as xs
theorem ArsOk.mono {g : Gm} {F F' : Hp} {σ : L2.St} (s : Same F F') : ∀ {as : List Ar} {xs : List V}, ArsOk g F σ as xs → ArsOk g F' σ as xs
  | [], _, h => h
  | a :: as, _, ⟨x, xs, e, r, t⟩ => ⟨x, xs, e, r.mono s, ArsOk.mono s t⟩
theorem ArsOk.length {g : Gm} {F : Hp} {σ : L2.St} : ∀ {as : List Ar} {xs : List V}, ArsOk g F σ as xs → as.length = xs.length
  | [], _, h => by cases (show _ = [] from h); rfl
  | a :: as, _, ⟨x, xs, e, r, t⟩ => by subst e; simp [ArsOk.length t]

section
variable {g : Gm} {F : Hp} {σ : L2.St}
/-- operands given as values -/
def valsOf : List Ar → Option (List D)
  | [] => some []
  | .v d :: r => match valsOf r with
    | some ds => some (d :: ds)
    | none => none
  | .pk _ :: _ => none
theorem valsOf_ok : ∀ {as : List Ar} {ds : List D} {vs : List V}, ArsOk g F σ as vs → valsOf as = some ds → RepL g F ds vs
  | [], _, _, h, e => by cases (show _ = [] from h); cases e; exact rfl
  | .v d :: r, ds, _, ⟨x, xs, rfl, q, t⟩, e => by
    unfold valsOf at e
    cases z : valsOf r with
    | none => simp [z] at e
    | some ds' =>
      simp only [z, Option.some.injEq] at e
      subst e
      exact ⟨x, xs, rfl, q, valsOf_ok t z⟩
  | .pk _ :: _, _, _, _, e => nomatch e
end
/-! ## readings -/
section
variable (g : Gm) (W : WX)
def postX (ρ : Nat → Addr) (G F : Hp) (σ : L2.St) (c : Nat) (fs : Option (Str × D)) (E' : Nv) : Prop :=
  ∀ dx F' H', StOk g ρ G E' F' σ H' → Same F F' → XRep g F' fs dx → W (.ref (g.xcl c)) dx σ H'
def post {α β : Type} (rel : Hp → L2.St → α → β → Prop) (ρ : Nat → Addr) (G F : Hp) (σ : L2.St) (Q : β → Hp → Prop) : R α → Prop
  | .val a E' => ∀ b F' H', StOk g ρ G E' F' σ H' → Same F F' → rel F' σ a b → Q b H'
  | .exc c fs E' => postX g W ρ G F σ c fs E'
  | .bad => False
def tG {α β : Type} (rel : Hp → L2.St → α → β → Prop) (f : Nv → R α) : L2.St → Hp → (β → Hp → Prop) → Prop := fun σ H Q =>
  ∃ ρ G E F, StOk g ρ G E F σ H ∧ post g W rel ρ G F σ Q (f E)
def postS (ρ : Nat → Addr) (G F : Hp) (D : Ends) : R Fl → Prop
  | .val .nx E' => ∀ σ' F' H', StOk g ρ G E' F' σ' H' → Same F F' → D.nx σ' H'
  | .val .bk E' => ∀ σ' F' H', StOk g ρ G E' F' σ' H' → Same F F' → D.bk σ' H'
  | .val .ct E' => ∀ σ' F' H', StOk g ρ G E' F' σ' H' → Same F F' → D.ct σ' H'
  | .val (.rt d) E' => ∀ v σ' F' H', StOk g ρ G E' F' σ' H' → Same F F' → Rep g F' d v → D.rt v H'
  | .val (.rn d) E' => ∀ p o σ' F' H', StOk g ρ (upd G p o) E' F' σ' H' → G p = none → OwnO g F' d o → Same F F' → D.rt (.ref p) H'
  | .exc c fs E' => ∀ dx σ' F' H', StOk g ρ G E' F' σ' H' → Same F F' → XRep g F' fs dx → W (.ref (g.xcl c)) dx σ' H'
  | .bad => False
def tS (s : Nv → R Fl) : TS := fun D σ H => ∃ ρ G E F, StOk g ρ G E F σ H ∧ postS g W ρ G F D (s E)
/-- a new owned object -/
def postN (ρ : Nat → Addr) (G F : Hp) (σ : L2.St) (Q : VK) : R D → Prop
  | .val d E' => ∀ p o F' H', StOk g ρ (upd G p o) E' F' σ H' → G p = none → OwnO g F' d o → Same F F' → Q (.ref p) H'
  | .exc c fs E' => postX g W ρ G F σ c fs E'
  | .bad => False
def tN (f : Nv → R D) : TE := fun σ H Q => ∃ ρ G E F, StOk g ρ G E F σ H ∧ postN g W ρ G F σ Q (f E)
abbrev relD : Hp → L2.St → D → V → Prop := fun F _ d v => Rep g F d v
abbrev relB : Hp → L2.St → Bool → Bool → Prop := fun _ _ b c => b = c
abbrev relA : Hp → L2.St → Ar → V → Prop := fun F σ a v => ArOk g F σ a v
abbrev relAs : Hp → L2.St → List Ar → List V → Prop := fun F σ a v => ArsOk g F σ a v
end
/-- an expression; a test; an operand; operands; a new object; a statement -/
abbrev FE (X : Cx) (g : Gm) (W : WX) (e : Expr) (f : Nv → R D) : Prop := PE X e (tG g W (relD g) f)
abbrev FT (X : Cx) (g : Gm) (W : WX) (e : Expr) (f : Nv → R Bool) : Prop := PT X e (tG g W relB f)
abbrev FO (X : Cx) (g : Gm) (W : WX) (e : Expr) (f : Nv → R Ar) : Prop := PE X e (tG g W (relA g) f)
abbrev FA (X : Cx) (g : Gm) (W : WX) (es : List Expr) (f : Nv → R (List Ar)) : Prop := PA X es (tG g W (relAs g) f)
abbrev FN (X : Cx) (g : Gm) (W : WX) (e : Expr) (f : Nv → R D) : Prop := PE X e (tN g W f)
abbrev FS (X : Cx) (g : Gm) (W : WX) (st : Stmt) (s : Nv → R Fl) : Prop := PS X st (tS g W s)
abbrev FSs (X : Cx) (g : Gm) (W : WX) (st : List Stmt) (s : Nv → R Fl) : Prop := PSs X st (tS g W s)

theorem peImp {X : Cx} {e : Expr} {t t' : TE} (h : PE X e t) (i : ∀ σ H Q, t' σ H Q → t σ H Q) : PE X e t' := ⟨fun pins s σ H Q I q => h.run pins s σ H Q I (i σ H Q q)⟩
theorem ptImp {X : Cx} {e : Expr} {t t' : TT} (h : PT X e t) (i : ∀ σ H Q, t' σ H Q → t σ H Q) : PT X e t' := ⟨fun pins s σ H Q I q => h.run pins s σ H Q I (i σ H Q q)⟩
theorem pwImp {X : Cx} {e : Expr} {t t' : TT} (h : PW X e t) (i : ∀ σ H Q, t' σ H Q → t σ H Q) : PW X e t' := ⟨fun wh pins s σ H Q I q => h.run wh pins s σ H Q I (i σ H Q q)⟩
theorem paImp {X : Cx} {e : List Expr} {t t' : TA} (h : PA X e t) (i : ∀ σ H Q, t' σ H Q → t σ H Q) : PA X e t' := ⟨fun pos pins s σ H Q I q => h.run pos pins s σ H Q I (i σ H Q q)⟩
theorem psImp {X : Cx} {e : Stmt} {t t' : TS} (h : PS X e t) (i : ∀ D σ H, t' D σ H → t D σ H) : PS X e t' := ⟨fun pins s σ H D I q => h.run pins s σ H D I (i D σ H q)⟩
theorem pssImp {X : Cx} {e : List Stmt} {t t' : TS} (h : PSs X e t) (i : ∀ D σ H, t' D σ H → t D σ H) : PSs X e t' := ⟨fun pins s σ H D I q => h.run pins s σ H D I (i D σ H q)⟩

section
variable {g : Gm} {W : WX} {α β γ δ : Type} {rel : Hp → L2.St → α → β → Prop} {rel2 : Hp → L2.St → γ → δ → Prop} {ρ : Nat → Addr} {G F F1 : Hp} {E : Nv} {σ : L2.St} {H : Hp}
theorem postX.mono (s : Same F F1) {c : Nat} {fs : Option (Str × D)} {E' : Nv} (h : postX g W ρ G F σ c fs E') : postX g W ρ G F1 σ c fs E' := fun dx F' H' st q x => h dx F' H' st (s.trans q) x
theorem post.mono (s : Same F F1) {Q : β → Hp → Prop} : ∀ {r : R α}, post g W rel ρ G F σ Q r → post g W rel ρ G F1 σ Q r
  | .val _ _, h => fun b F' H' st q x => h b F' H' st (s.trans q) x
  | .exc _ _ _, h => postX.mono s h
  | .bad, h => h
theorem postN.mono (s : Same F F1) {Q : VK} : ∀ {r : R D}, postN g W ρ G F σ Q r → postN g W ρ G F1 σ Q r
  | .val _ _, h => fun p o F' H' st n ow q => h p o F' H' st n ow (s.trans q)
  | .exc _ _ _, h => postX.mono s h
  | .bad, h => h
theorem postS.mono (s : Same F F1) {D : Ends} : ∀ {r : R Fl}, postS g W ρ G F D r → postS g W ρ G F1 D r
  | .val .nx _, h => fun σ' F' H' st q => h σ' F' H' st (s.trans q)
  | .val .bk _, h => fun σ' F' H' st q => h σ' F' H' st (s.trans q)
  | .val .ct _, h => fun σ' F' H' st q => h σ' F' H' st (s.trans q)
  | .val (.rt _) _, h => fun v σ' F' H' st q r => h v σ' F' H' st (s.trans q) r
  | .val (.rn _) _, h => fun p o σ' F' H' st n ow q => h p o σ' F' H' st n ow (s.trans q)
  | .exc _ _ _, h => fun dx σ' F' H' st q x => h dx σ' F' H' st (s.trans q) x
  | .bad, h => h
/-- an expression, then the rest -/
theorem bindE {f : Nv → R α} {k : α → Nv → R γ} {Q2 : δ → Hp → Prop} {Q1 : β → Hp → Prop} (st : StOk g ρ G E F σ H) (h : post g W rel2 ρ G F σ Q2 ((f E).bind k))
    (cont : ∀ a E1 b F1 H1, StOk g ρ G E1 F1 σ H1 → Same F F1 → rel F1 σ a b → post g W rel2 ρ G F1 σ Q2 (k a E1) → Q1 b H1) : tG g W rel f σ H Q1 := by
  refine ⟨ρ, G, E, F, st, ?_⟩
  revert h
  cases f E with
  | val a E1 => exact fun h b F' H' st' s r => cont a E1 b F' H' st' s r (post.mono (r := k a E1) s h)
  | exc c fs E' => exact fun h => h
  | bad => exact fun h => h
theorem bindN {f : Nv → R α} {k : α → Nv → R D} {Q2 : VK} {Q1 : β → Hp → Prop} (st : StOk g ρ G E F σ H) (h : postN g W ρ G F σ Q2 ((f E).bind k))
    (cont : ∀ a E1 b F1 H1, StOk g ρ G E1 F1 σ H1 → Same F F1 → rel F1 σ a b → postN g W ρ G F1 σ Q2 (k a E1) → Q1 b H1) : tG g W rel f σ H Q1 := by
  refine ⟨ρ, G, E, F, st, ?_⟩
  revert h
  cases f E with
  | val a E1 => exact fun h b F' H' st' s r => cont a E1 b F' H' st' s r (postN.mono (r := k a E1) s h)
  | exc c fs E' => exact fun h => h
  | bad => exact fun h => h
theorem bindS {f : Nv → R α} {k : α → Nv → R Fl} {D : Ends} {Q1 : β → Hp → Prop} (st : StOk g ρ G E F σ H) (h : postS g W ρ G F D ((f E).bind k))
    (cont : ∀ a E1 b F1 H1, StOk g ρ G E1 F1 σ H1 → Same F F1 → rel F1 σ a b → postS g W ρ G F1 D (k a E1) → Q1 b H1) : tG g W rel f σ H Q1 := by
  refine ⟨ρ, G, E, F, st, ?_⟩
  revert h
  cases f E with
  | val a E1 => exact fun h b F' H' st' s r => cont a E1 b F' H' st' s r (postS.mono (r := k a E1) s h)
  | exc c fs E' => exact fun h dx F' H' st' s x => h dx σ F' H' st' s x
  | bad => exact fun h => h
/-- a new object, then the rest -/
theorem bindNE {f : Nv → R D} {k : D → Nv → R γ} {Q2 : δ → Hp → Prop} {Q1 : VK} (st : StOk g ρ G E F σ H) (h : post g W rel2 ρ G F σ Q2 ((f E).bind k))
    (cont : ∀ d E1 p o F1 H1, StOk g ρ (upd G p o) E1 F1 σ H1 → G p = none → OwnO g F1 d o → Same F F1 → post g W rel2 ρ G F1 σ Q2 (k d E1) → Q1 (.ref p) H1) : tN g W f σ H Q1 := by
  refine ⟨ρ, G, E, F, st, ?_⟩
  revert h
  cases f E with
  | val a E1 => exact fun h p o F' H' st' n ow s => cont a E1 p o F' H' st' n ow s (post.mono (r := k a E1) s h)
  | exc c fs E' => exact fun h => h
  | bad => exact fun h => h
theorem bindNS {f : Nv → R D} {k : D → Nv → R Fl} {D' : Ends} {Q1 : VK} (st : StOk g ρ G E F σ H) (h : postS g W ρ G F D' ((f E).bind k))
    (cont : ∀ d E1 p o F1 H1, StOk g ρ (upd G p o) E1 F1 σ H1 → G p = none → OwnO g F1 d o → Same F F1 → postS g W ρ G F1 D' (k d E1) → Q1 (.ref p) H1) : tN g W f σ H Q1 := by
  refine ⟨ρ, G, E, F, st, ?_⟩
  revert h
  cases f E with
  | val a E1 => exact fun h p o F' H' st' n ow s => cont a E1 p o F' H' st' n ow s (postS.mono (r := k a E1) s h)
  | exc c fs E' => exact fun h dx F' H' st' s x => h dx σ F' H' st' s x
  | bad => exact fun h => h
end

/-! ## value operations -/
/-- only new frozen objects -/
def Grow (g : Gm) (F H F' H' : Hp) : Prop := Same F F' ∧ ∀ ρ G E σ, StOk g ρ G E F σ H → StOk g ρ G E F' σ H'
theorem Grow.refl {g : Gm} {F H : Hp} : Grow g F H F H := ⟨Same.refl _, fun _ _ _ _ h => h⟩
theorem Grow.new {g : Gm} {F H : Hp} {p : Addr} (o : HO) (sf : Same F H) (h : H p = none) : Grow g F H (upd F p o) (upd H p o) := ⟨Same.new (sf.free h), fun _ _ _ _ st => st.grow h o⟩
/-- d stands at v: frozen, or an owned cell's content -/
def RepH (g : Gm) (F H : Hp) (d : D) (v : V) : Prop := Rep g F d v ∨ ∃ p o, v = .ref p ∧ H p = some o ∧ OwnO g F d o
def RepHL (g : Gm) (F H : Hp) : List D → List V → Prop
  | [], vs => vs = []
  | d :: ds, vs => ∃ x xs, vs = x :: xs ∧ RepH g F H d x ∧ RepHL g F H ds xs
section
variable {g : Gm} {ρ : Nat → Addr} {G F F' H : Hp} {E : Nv} {σ : L2.St} {d : D} {v : V}
theorem ar_ok (st : StOk g ρ G E F σ H) : ∀ {a : Ar} {d : D} {v : V}, ArOk g F σ a v → a.get E = some d → RepH g F H d v
  | .v _, _, _, h, e => by cases e; exact .inl h
  | .pk i, d, v, h, e => by
    have h : σ[i]? = some (some v) := h
    unfold Ar.get at e
    cases q : E[i]? with
    | none => simp [q] at e
    | some s =>
      simp only [q] at e
      cases s with
      | no => cases e
      | fz x =>
        cases e
        obtain ⟨w, a, b⟩ := st.fz i _ q
        rw [h] at a
        cases a
        exact .inl b
      | own x =>
        cases e
        obtain ⟨p, a, _, _, o, b, c⟩ := st.at q rfl
        rw [h] at a
        cases a
        exact .inr ⟨p, o, rfl, b, c⟩
      | bor k x =>
        cases e
        obtain ⟨p, a, _, _, o, b, c⟩ := st.at q rfl
        rw [h] at a
        cases a
        exact .inr ⟨p, o, rfl, b, c⟩
/-- all operands' data -/
def arGets (E : Nv) : List Ar → Option (List D)
  | [] => some []
  | a :: as => match a.get E with
    | none => none
    | some d => match arGets E as with
      | none => none
      | some ds => some (d :: ds)
theorem ars_ok (st : StOk g ρ G E F σ H) : ∀ {as : List Ar} {ds : List D} {vs : List V}, ArsOk g F σ as vs → arGets E as = some ds → RepHL g F H ds vs
  | [], _, _, h, e => by cases e; exact h
  | a :: as, ds, _, ⟨x, xs, e1, r, t⟩, e => by
    subst e1
    unfold arGets at e
    cases q : a.get E with
    | none => simp [q] at e
    | some d =>
      cases q2 : arGets E as with
      | none => simp [q, q2] at e
      | some ds' =>
        simp [q, q2] at e
        subst e
        exact ⟨x, xs, rfl, ar_ok st r q, ars_ok st t q2⟩
theorem RepH.non (h : RepH g F H .non v) : v = .non := by rcases h with h | ⟨_, _, _, _, h⟩; exact h; exact h.elim
theorem RepH.bl {b : Bool} (h : RepH g F H (.bl b) v) : v = .bl b := by rcases h with h | ⟨_, _, _, _, h⟩; exact h; exact h.elim
theorem RepH.int {b : Int} (h : RepH g F H (.int b) v) : v = .int b := by rcases h with h | ⟨_, _, _, _, h⟩; exact h; exact h.elim
theorem RepH.str {b : Str} (h : RepH g F H (.str b) v) : v = .str b := by rcases h with h | ⟨_, _, _, _, h⟩; exact h; exact h.elim
theorem RepH.ty {b : String} (h : RepH g F H (.ty b) v) : v = .ty b := by rcases h with h | ⟨_, _, _, _, h⟩; exact h; exact h.elim
theorem RepH.cls {b : Nat} (h : RepH g F H (.cls b) v) : v = .ref (g.cls b) := by rcases h with h | ⟨_, _, _, _, h⟩; exact h; exact h.elim
theorem RepH.tup {ds : List D} (sf : Same F H) (h : RepH g F H (.tup ds) v) : ∃ a xs, v = .ref a ∧ SqT g.K H a xs ∧ RepL g F ds xs := by
  rcases h with ⟨a, xs, e, q, r⟩ | ⟨_, _, _, _, h⟩
  · exact ⟨a, xs, e, same_t sf q, r⟩
  · exact h.elim
theorem RepH.scr {ns : List Int} (sf : Same F H) (h : RepH g F H (.scr ns) v) : ∃ a, v = .ref a ∧ SqL g.K H a (ns.map V.int) := by
  rcases h with ⟨a, e, q⟩ | ⟨_, _, _, _, h⟩
  · exact ⟨a, e, sf.seq q⟩
  · exact h.elim
theorem RepH.lst {ds : List D} (sf : Same F H) (h : RepH g F H (.lst ds) v) : ∃ a xs, v = .ref a ∧ H a = some (.lst xs) ∧ RepL g F ds xs := by
  rcases h with ⟨a, xs, e, q, r⟩ | ⟨p, o, e, hp, xs, rfl, r⟩
  · exact ⟨a, xs, e, sf _ _ q, r⟩
  · exact ⟨p, xs, e, hp, r⟩
theorem RepH.ins {c : Nat} {ns : List Str} {ds : List D} (sf : Same F H) (h : RepH g F H (.ins c ns ds) v) : ∃ a dx xs, v = .ref a ∧ H a = some (.ins (g.cls c) dx (ns.zip xs)) ∧ ns.length = xs.length ∧ RepL g F ds xs := by
  rcases h with ⟨a, dx, xs, e, q, l, r⟩ | ⟨p, o, e, hp, dx, xs, rfl, l, r⟩
  · exact ⟨a, dx, xs, e, sf _ _ q, l, r⟩
  · exact ⟨p, dx, xs, e, hp, l, r⟩
theorem RepHL.one (h : RepHL g F H [d] vs) : ∃ x, vs = [x] ∧ RepH g F H d x := by
  obtain ⟨x, xs, rfl, r, e⟩ := h
  cases (show xs = [] from e)
  exact ⟨x, rfl, r⟩
theorem RepHL.two {d e : D} {vs : List V} (h : RepHL g F H [d, e] vs) : ∃ x y, vs = [x, y] ∧ RepH g F H d x ∧ RepH g F H e y := by
  obtain ⟨x, xs, rfl, r, t⟩ := h
  obtain ⟨y, rfl, q⟩ := RepHL.one t
  exact ⟨x, y, rfl, r, q⟩
end
/-- a two-place operation; one of an argument list; with a new owned result -/
def Op2 (g : Gm) (r : R2) (o : D → D → Option D) : Prop := ∀ (F H : Hp) (v u : V) (d e z : D) (Q : VK), Same F H → RepH g F H d v → RepH g F H e u → o d e = some z →
  (∀ w F' H', Grow g F H F' H' → Rep g F' z w → Q w H') → r v u H Q
def OpL (g : Gm) (r : List V → Hp → VK → Prop) (o : List D → Option D) : Prop := ∀ (F H : Hp) (vs : List V) (ds : List D) (z : D) (Q : VK), Same F H → RepHL g F H ds vs → o ds = some z →
  (∀ w F' H', Grow g F H F' H' → Rep g F' z w → Q w H') → r vs H Q
def OpN (g : Gm) (r : List V → Hp → VK → Prop) (o : List D → Option D) : Prop := ∀ (F H : Hp) (vs : List V) (ds : List D) (z : D) (Q : VK), Same F H → RepHL g F H ds vs → o ds = some z →
  (∀ p ob, H p = none → OwnO g F z ob → Q (.ref p) (upd H p ob)) → r vs H Q
def Op2N (g : Gm) (r : R2) (o : D → D → Option D) : Prop := ∀ (F H : Hp) (v u : V) (d e z : D) (Q : VK), Same F H → RepH g F H d v → RepH g F H e u → o d e = some z →
  (∀ p ob, H p = none → OwnO g F z ob → Q (.ref p) (upd H p ob)) → r v u H Q

/-! ## expressions -/
def fC (d : D) : Nv → R D := fun E => .val d E
def fVar (i : Nat) : Nv → R D := fun E => match E[i]? with
  | some (.fz d) => .val d E
  | some (.own d) => .val d (E.set i (.fz d))
  | _ => .bad
def fV (f : Nv → R D) : Nv → R Ar := fun E => (f E).bind fun d E1 => .val (.v d) E1
def fPk (i : Nat) : Nv → R Ar := fun E => match E[i]? with
  | some s => match s.cont with
    | some _ => .val (.pk i) E
    | none => .bad
  | none => .bad
def res2 (o : D → D → Option D) (E : Nv) (a b : Ar) : R D := match a.get E with
  | none => .bad
  | some d => match b.get E with
    | none => .bad
    | some e => R.some (o d e) E
def fOp2 (o : D → D → Option D) (fa fb : Nv → R Ar) : Nv → R D := fun E => (fa E).bind fun a E1 => (fb E1).bind fun b E2 => res2 o E2 a b
def fAs : List (Nv → R Ar) → Nv → R (List Ar)
  | [], E => .val [] E
  | f :: fs, E => (f E).bind fun a E1 => (fAs fs E1).bind fun as E2 => .val (a :: as) E2
def resL (o : List D → Option D) (E : Nv) (as : List Ar) : R D := match arGets E as with
  | none => .bad
  | some ds => R.some (o ds) E
def fOpL (o : List D → Option D) (fs : Nv → R (List Ar)) : Nv → R D := fun E => (fs E).bind fun as E1 => resL o E1 as
def asB : D → Option Bool
  | .bl b => some b
  | _ => none
def fTest (f : Nv → R D) : Nv → R Bool := fun E => (f E).bind fun d E1 => R.some (asB d) E1
def fChain (o o' : D → D → Option D) (fa fb fc : Nv → R Ar) : Nv → R D := fun E => (fa E).bind fun a E1 => (fb E1).bind fun b E2 => (res2 o E2 a b).bind fun z E3 => match asB z with
  | some true => (fc E3).bind fun c E4 => res2 o' E4 b c
  | some false => .val (.bl false) E3
  | none => .bad
def fAnd (fa fb : Nv → R D) : Nv → R D := fun E => (fa E).bind fun d E1 => match asB d with
  | some true => fb E1
  | some false => .val (.bl false) E1
  | none => .bad
def fOr (fa fb : Nv → R D) : Nv → R D := fun E => (fa E).bind fun d E1 => match asB d with
  | some true => .val (.bl true) E1
  | some false => fb E1
  | none => .bad
def fNot (fa : Nv → R D) : Nv → R D := fun E => (fa E).bind fun d E1 => match asB d with
  | some b => .val (.bl (!b)) E1
  | none => .bad
def tAndF (fa fb : Nv → R Bool) : Nv → R Bool := fun E => (fa E).bind fun b E1 => if b = true then fb E1 else .val false E1
def tOrF (fa fb : Nv → R Bool) : Nv → R Bool := fun E => (fa E).bind fun b E1 => if b = true then .val true E1 else fb E1
def tNotF (fa : Nv → R Bool) : Nv → R Bool := fun E => (fa E).bind fun b E1 => .val (!b) E1
def fIf {α : Type} (t : Nv → R Bool) (fa fb : Nv → R α) : Nv → R α := fun E => (t E).bind fun b E1 => if b = true then fa E1 else fb E1
section
variable {X : Cx} {g : Gm} {W : WX} {e a b c : Expr} {es : List Expr} {pos : Pos}
theorem fe_var {i : Nat} (h : PE X e (tVar i)) : FE X g W e (fVar i) := peImp h fun σ H Q ⟨ρ, G, E, F, st, q⟩ => by
  unfold fVar at q
  cases z : E[i]? with
  | none => simp only [z] at q; exact q.elim
  | some s =>
    simp only [z] at q
    cases s with
    | no => exact q.elim
    | bor _ _ => exact q.elim
    | fz d =>
      obtain ⟨v, x, r⟩ := st.fz i d z
      exact ⟨v, x, q v F H st (Same.refl F) r⟩
    | own d =>
      obtain ⟨v, F', x, s, r, st'⟩ := st.demote z
      exact ⟨v, x, q v F' H st' s r⟩
theorem fe_c {v : V} (h : PE X e (tC v)) (d : D) (r : ∀ F, Rep g F d v) : FE X g W e (fC d) := peImp h fun σ H Q ⟨ρ, G, E, F, st, q⟩ => q v F H st (Same.refl F) (r F)
theorem fo_val {f : Nv → R D} (h : FE X g W e f) : FO X g W e (fV f) := peImp h fun σ H Q ⟨ρ, G, E, F, st, q⟩ =>
  bindE st q fun d E1 v F1 H1 st1 s1 r1 q1 => q1 v F1 H1 st1 (Same.refl F1) r1
theorem fo_pk {i : Nat} (h : PE X e (tVar i)) : FO X g W e (fPk i) := peImp h fun σ H Q ⟨ρ, G, E, F, st, q⟩ => by
  unfold fPk at q
  cases z : E[i]? with
  | none => simp only [z] at q; exact q.elim
  | some s =>
    simp only [z] at q
    cases s with
    | no => exact q.elim
    | fz d =>
      obtain ⟨v, x, r⟩ := st.fz i d z
      exact ⟨v, x, q v F H st (Same.refl F) x⟩
    | own d =>
      obtain ⟨p, x, r⟩ := st.at z rfl
      exact ⟨_, x, q _ F H st (Same.refl F) x⟩
    | bor k d =>
      obtain ⟨p, x, r⟩ := st.at z rfl
      exact ⟨_, x, q _ F H st (Same.refl F) x⟩
theorem res2_ok {r : R2} {o : D → D → Option D} (hr : Op2 g r o) {ρ : Nat → Addr} {G F H : Hp} {E : Nv} {σ : L2.St} {x y : Ar} {v u : V} {Q : VK} (st : StOk g ρ G E F σ H) (rx : ArOk g F σ x v) (ry : ArOk g F σ y u)
    {Q1 : VK} (h : ∀ z, res2 o E x y = .val z E → ∀ w F' H', Same F F' → StOk g ρ G E F' σ H' → Rep g F' z w → Q1 w H') (nb : res2 o E x y ≠ .bad) : r v u H Q1 := by
  unfold res2 at h nb
  cases e1 : x.get E with
  | none => simp [e1] at nb
  | some d =>
    cases e2 : y.get E with
    | none => simp [e1, e2] at nb
    | some e =>
      simp only [e1, e2] at h nb
      cases e3 : o d e with
      | none => simp [e3, R.some] at nb
      | some z =>
        simp only [e3, R.some] at h
        exact hr F H v u d e z Q1 st.sf (ar_ok st rx e1) (ar_ok st ry e2) e3 fun w F' H' gr rw' => h z rfl w F' H' gr.1 (gr.2 _ _ _ _ st) rw'
theorem le_op2 {r : R2} {o : D → D → Option D} (hr : Op2 g r o) {fa fb : Nv → R Ar} {σ : L2.St} {H : Hp} {Q : VK} (h : tG g W (relD g) (fOp2 o fa fb) σ H Q) : tOp r (tG g W (relA g) fa) (tG g W (relA g) fb) σ H Q := by
  obtain ⟨ρ, G, E, F, st, q⟩ := h
  refine bindE st q fun x E1 v F1 H1 st1 s1 r1 q1 => ?_
  refine bindE st1 q1 fun y E2 u F2 H2 st2 s2 r2 q2 => ?_
  refine res2_ok (Q := Q) hr st2 (r1.mono s2) r2 (fun z e w F' H' s st' r => ?_) fun e => by rw [e] at q2; exact q2.elim
  rw [e] at q2
  exact q2 w F' H' st' s r
theorem fe_op2 {r : R2} {o : D → D → Option D} (hr : Op2 g r o) {fa fb : Nv → R Ar} (h : PE X e (tOp r (tG g W (relA g) fa) (tG g W (relA g) fb))) : FE X g W e (fOp2 o fa fb) := peImp h fun _ _ _ q => le_op2 hr q
theorem le_test {f : Nv → R D} {t : TE} (i : ∀ σ H Q, tG g W (relD g) f σ H Q → t σ H Q) {σ : L2.St} {H : Hp} {Q : Bool → Hp → Prop} (h : tG g W relB (fTest f) σ H Q) : t σ H fun x H' => ∃ k, x = .bl k ∧ Q k H' := by
  obtain ⟨ρ, G, E, F, st, q⟩ := h
  refine i _ _ _ (bindE st q fun d E1 v F1 H1 st1 s1 r1 q1 => ?_)
  cases d with
  | bl k =>
    obtain rfl : v = .bl k := r1
    exact ⟨k, rfl, q1 k F1 H1 st1 (Same.refl _) rfl⟩
  | _ => exact q1.elim
theorem ft_op2 {r : R2} {o : D → D → Option D} (hr : Op2 g r o) {fa fb : Nv → R Ar} (h : PT X e (tTest (tOp r (tG g W (relA g) fa) (tG g W (relA g) fb)))) : FT X g W e (fTest (fOp2 o fa fb)) := ptImp h fun _ _ _ q => le_test (fun _ _ _ => le_op2 hr) q
theorem ft_val {f : Nv → R D} (h : PT X e (tB (tG g W (relD g) f))) : FT X g W e (fTest f) := ptImp h fun _ _ _ q => le_test (fun _ _ _ z => z) q
theorem le_chain {r r' : R2} {o o' : D → D → Option D} (hr : Op2 g r o) (hr' : Op2 g r' o') {fa fb fc : Nv → R Ar} {σ : L2.St} {H : Hp} {Q : VK} (h : tG g W (relD g) (fChain o o' fa fb fc) σ H Q) :
    tChain r r' (tG g W (relA g) fa) (tG g W (relA g) fb) (tG g W (relA g) fc) σ H Q := by
  obtain ⟨ρ, G, E, F, st, q⟩ := h
  refine bindE st q fun x E1 v F1 H1 st1 s1 r1 q1 => ?_
  refine bindE st1 q1 fun y E2 u F2 H2 st2 s2 r2 q2 => ?_
  refine res2_ok (Q := Q) hr st2 (r1.mono s2) r2 (fun z e w F3 H3 s3 st3 r3 => ?_) fun e => by rw [e] at q2; exact q2.elim
  rw [e] at q2
  have q2 : post g W (relD g) ρ G F2 σ Q (match asB z with | some true => (fc E2).bind fun c E4 => res2 o' E4 y c | some false => .val (.bl false) E2 | none => .bad) := q2
  cases z with
  | bl k =>
    obtain rfl : w = .bl k := r3
    refine ⟨k, rfl, ?_⟩
    cases k with
    | true =>
      rw [if_pos rfl]
      refine bindE (rel := relA g) st3 (post.mono s3 q2) fun c E4 w F4 H4 st4 s4 r4 q4 => ?_
      refine res2_ok (Q := Q) hr' st4 (r2.mono (s3.trans s4)) r4 (fun z' e' w' F' H' s st' r => ?_) fun e' => by rw [e'] at q4; exact q4.elim
      rw [e'] at q4
      exact q4 w' F' H' st' s r
    | false =>
      rw [if_neg Bool.false_ne_true]
      exact q2 (.bl false) F3 H3 st3 s3 rfl
  | _ => exact q2.elim
theorem fe_chain {r r' : R2} {o o' : D → D → Option D} (hr : Op2 g r o) (hr' : Op2 g r' o') {fa fb fc : Nv → R Ar} (h : PE X e (tChain r r' (tG g W (relA g) fa) (tG g W (relA g) fb) (tG g W (relA g) fc))) : FE X g W e (fChain o o' fa fb fc) :=
  peImp h fun _ _ _ q => le_chain hr hr' q
theorem ft_chain {r r' : R2} {o o' : D → D → Option D} (hr : Op2 g r o) (hr' : Op2 g r' o') {fa fb fc : Nv → R Ar} (h : PT X e (tTest (tChain r r' (tG g W (relA g) fa) (tG g W (relA g) fb) (tG g W (relA g) fc)))) : FT X g W e (fTest (fChain o o' fa fb fc)) :=
  ptImp h fun _ _ _ q => le_test (fun _ _ _ => le_chain hr hr') q
theorem fe_and {fa fb : Nv → R D} (h : PE X e (tAndV (tG g W (relD g) fa) (tG g W (relD g) fb))) : FE X g W e (fAnd fa fb) := peImp h fun σ H Q ⟨ρ, G, E, F, st, q⟩ =>
  bindE st q fun d E1 v F1 H1 st1 s1 r1 q1 => by
    cases d with
    | bl k =>
      obtain rfl : v = .bl k := r1
      refine ⟨k, rfl, ?_⟩
      cases k with
      | true => rw [if_pos rfl]; exact ⟨ρ, G, E1, F1, st1, q1⟩
      | false => rw [if_neg Bool.false_ne_true]; exact q1 _ F1 H1 st1 (Same.refl _) rfl
    | _ => exact q1.elim
theorem fe_or {fa fb : Nv → R D} (h : PE X e (tOrV (tG g W (relD g) fa) (tG g W (relD g) fb))) : FE X g W e (fOr fa fb) := peImp h fun σ H Q ⟨ρ, G, E, F, st, q⟩ =>
  bindE st q fun d E1 v F1 H1 st1 s1 r1 q1 => by
    cases d with
    | bl k =>
      obtain rfl : v = .bl k := r1
      refine ⟨k, rfl, ?_⟩
      cases k with
      | true => rw [if_pos rfl]; exact q1 _ F1 H1 st1 (Same.refl _) rfl
      | false => rw [if_neg Bool.false_ne_true]; exact ⟨ρ, G, E1, F1, st1, q1⟩
    | _ => exact q1.elim
theorem fe_not {fa : Nv → R D} (h : PE X e (tNotV (tG g W (relD g) fa))) : FE X g W e (fNot fa) := peImp h fun σ H Q ⟨ρ, G, E, F, st, q⟩ =>
  bindE st q fun d E1 v F1 H1 st1 s1 r1 q1 => by
    cases d with
    | bl k =>
      obtain rfl : v = .bl k := r1
      exact ⟨k, rfl, q1 _ F1 H1 st1 (Same.refl _) rfl⟩
    | _ => exact q1.elim
theorem le_and {fa fb : Nv → R Bool} {σ : L2.St} {H : Hp} {Q : Bool → Hp → Prop} (h : tG g W relB (tAndF fa fb) σ H Q) : tAnd (tG g W relB fa) (tG g W relB fb) σ H Q := by
  obtain ⟨ρ, G, E, F, st, q⟩ := h
  refine bindE st q fun k E1 c F1 H1 st1 s1 r1 q1 => ?_
  obtain rfl : k = c := r1
  cases k with
  | true => rw [if_pos rfl]; exact ⟨ρ, G, E1, F1, st1, q1⟩
  | false => rw [if_neg Bool.false_ne_true]; exact q1 _ F1 H1 st1 (Same.refl _) rfl
theorem le_or {fa fb : Nv → R Bool} {σ : L2.St} {H : Hp} {Q : Bool → Hp → Prop} (h : tG g W relB (tOrF fa fb) σ H Q) : tOr (tG g W relB fa) (tG g W relB fb) σ H Q := by
  obtain ⟨ρ, G, E, F, st, q⟩ := h
  refine bindE st q fun k E1 c F1 H1 st1 s1 r1 q1 => ?_
  obtain rfl : k = c := r1
  cases k with
  | true => rw [if_pos rfl]; exact q1 _ F1 H1 st1 (Same.refl _) rfl
  | false => rw [if_neg Bool.false_ne_true]; exact ⟨ρ, G, E1, F1, st1, q1⟩
abbrev FW (X : Cx) (g : Gm) (W : WX) (e : Expr) (f : Nv → R Bool) : Prop := PW X e (tG g W relB f)
variable {rest : List Expr}
theorem fw_and1 {fa : Nv → R Bool} (h : FT X g W a fa) : FW X g W (.BoolOp .And [a] pos) fa := pw_and1 h
theorem fw_or1 {fa : Nv → R Bool} (h : FT X g W a fa) : FW X g W (.BoolOp .Or [a] pos) fa := pw_or1 h
theorem fw_and {fa fb : Nv → R Bool} (h : FT X g W a fa) (k : FW X g W (.BoolOp .And (b :: rest) pos) fb) : FW X g W (.BoolOp .And (a :: b :: rest) pos) (tAndF fa fb) := pwImp (pw_and h k) fun _ _ _ q => le_and q
theorem fw_or {fa fb : Nv → R Bool} (h : FT X g W a fa) (k : FW X g W (.BoolOp .Or (b :: rest) pos) fb) : FW X g W (.BoolOp .Or (a :: b :: rest) pos) (tOrF fa fb) := pwImp (pw_or h k) fun _ _ _ q => le_or q
theorem ft_not {fa : Nv → R Bool} (h : FT X g W a fa) : FT X g W (.UnaryOp .Not a pos) (tNotF fa) := ptImp (pt_not h) fun σ H Q ⟨ρ, G, E, F, st, q⟩ =>
  bindE st q fun k E1 c F1 H1 st1 s1 r1 q1 => q1 (!c) F1 H1 st1 (Same.refl _) (by rw [show k = c from r1])
theorem fe_if {t : Nv → R Bool} {fa fb : Nv → R D} (ht : FT X g W c t) (ha : FE X g W a fa) (hb : FE X g W b fb) : FE X g W (.IfExp c a b pos) (fIf t fa fb) := peImp (pe_ifExp ht ha hb) fun σ H Q ⟨ρ, G, E, F, st, q⟩ =>
  bindE st q fun k E1 c F1 H1 st1 s1 r1 q1 => by
    obtain rfl : k = c := r1
    cases k with
    | true => rw [if_pos rfl]; exact ⟨ρ, G, E1, F1, st1, q1⟩
    | false => rw [if_neg Bool.false_ne_true]; exact ⟨ρ, G, E1, F1, st1, q1⟩
/-! operand lists -/
theorem fa_nil : FA X g W [] (fAs []) := paImp pa_nil fun σ H Q ⟨ρ, G, E, F, st, q⟩ => q [] F H st (Same.refl _) rfl
theorem fa_cons {f : Nv → R Ar} {fs : List (Nv → R Ar)} (h : FO X g W e f) (k : FA X g W es (fAs fs)) (hs : starEach (e :: es) X.env = (false, eval e X.env) :: starEach es X.env := by rfl) : FA X g W (e :: es) (fAs (f :: fs)) :=
  paImp (pa_cons h k hs) fun σ H Q ⟨ρ, G, E, F, st, q⟩ =>
    bindE st q fun x E1 v F1 H1 st1 s1 r1 q1 => bindE st1 q1 fun xs E2 vs F2 H2 st2 s2 r2 q2 => q2 (v :: vs) F2 H2 st2 (Same.refl _) ⟨v, vs, rfl, r1.mono s2, r2⟩
theorem resL_ok {r : List V → Hp → VK → Prop} {o : List D → Option D} (hr : OpL g r o) {ρ : Nat → Addr} {G F H : Hp} {E : Nv} {σ : L2.St} {xs : List Ar} {vs : List V} (st : StOk g ρ G E F σ H) (rx : ArsOk g F σ xs vs)
    {Q1 : VK} (h : ∀ z, resL o E xs = .val z E → ∀ w F' H', Same F F' → StOk g ρ G E F' σ H' → Rep g F' z w → Q1 w H') (nb : resL o E xs ≠ .bad) : r vs H Q1 := by
  unfold resL at h nb
  cases e1 : arGets E xs with
  | none => simp [e1] at nb
  | some ds =>
    simp only [e1] at h nb
    cases e3 : o ds with
    | none => simp [e3, R.some] at nb
    | some z =>
      simp only [e3, R.some] at h
      exact hr F H vs ds z Q1 st.sf (ars_ok st rx e1) e3 fun w F' H' gr rw' => h z rfl w F' H' gr.1 (gr.2 _ _ _ _ st) rw'
theorem le_opL {r : List V → Hp → VK → Prop} {o : List D → Option D} (hr : OpL g r o) {fs : Nv → R (List Ar)} {σ : L2.St} {H : Hp} {Q : VK} (h : tG g W (relD g) (fOpL o fs) σ H Q) : tCB r (tG g W (relAs g) fs) σ H Q := by
  obtain ⟨ρ, G, E, F, st, q⟩ := h
  refine bindE st q fun x E1 v F1 H1 st1 s1 r1 q1 => ?_
  refine resL_ok hr st1 r1 (fun z e w F' H' s st' r => ?_) fun e => by rw [e] at q1; exact q1.elim
  rw [e] at q1
  exact q1 w F' H' st' s r
theorem fe_opL {r : List V → Hp → VK → Prop} {o : List D → Option D} (hr : OpL g r o) {fs : Nv → R (List Ar)} (h : PE X e (tCB r (tG g W (relAs g) fs))) : FE X g W e (fOpL o fs) := peImp h fun _ _ _ q => le_opL hr q
theorem fn_opL {r : List V → Hp → VK → Prop} {o : List D → Option D} (hr : OpN g r o) {fs : Nv → R (List Ar)} (h : PE X e (tCB r (tG g W (relAs g) fs))) : FN X g W e (fOpL o fs) := peImp h fun σ H Q ⟨ρ, G, E, F, st, q⟩ => by
  refine bindN st q fun x E1 vs F1 H1 st1 s1 r1 q1 => ?_
  unfold resL at q1
  cases e1 : arGets E1 x with
  | none => simp only [e1] at q1; exact q1.elim
  | some ds =>
    simp only [e1] at q1
    cases e3 : o ds with
    | none => simp only [e3, R.some] at q1; exact q1.elim
    | some z =>
      simp only [e3, R.some] at q1
      exact hr F1 H1 vs ds z Q st1.sf (ars_ok st1 r1 e1) e3 fun p ob hp ow => q1 p ob F1 _ (st1.temp hp ob) (st1.fG hp) ow (Same.refl _)
theorem fn_op2 {r : R2} {o : D → D → Option D} (hr : Op2N g r o) {fa fb : Nv → R Ar} (h : PE X e (tOp r (tG g W (relA g) fa) (tG g W (relA g) fb))) : FN X g W e (fOp2 o fa fb) := peImp h fun σ H Q ⟨ρ, G, E, F, st, q⟩ => by
  refine bindN st q fun x E1 v F1 H1 st1 s1 r1 q1 => ?_
  refine bindN st1 q1 fun y E2 u F2 H2 st2 s2 r2 q2 => ?_
  unfold res2 at q2
  cases e1 : x.get E2 with
  | none => simp only [e1] at q2; exact q2.elim
  | some d =>
    cases e2 : y.get E2 with
    | none => simp only [e1, e2] at q2; exact q2.elim
    | some e =>
      simp only [e1, e2] at q2
      cases e3 : o d e with
      | none => simp only [e3, R.some] at q2; exact q2.elim
      | some z =>
        simp only [e3, R.some] at q2
        exact hr F2 H2 v u d e z Q st2.sf (ar_ok st2 (r1.mono s2) e1) (ar_ok st2 r2 e2) e3 fun p ob hp ow => q2 p ob F2 _ (st2.temp hp ob) (st2.fG hp) ow (Same.refl _)
/-- a new object, frozen -/
theorem fe_fn {f : Nv → R D} (h : FN X g W e f) : FE X g W e f := peImp h fun σ H Q ⟨ρ, G, E, F, st, q⟩ => by
  refine ⟨ρ, G, E, F, st, ?_⟩
  revert q
  cases f E with
  | val d E1 => exact fun q p o F' H' st' gn ow s => q (.ref p) _ H' (st'.freeze gn) (s.trans (Same.new (st'.dj p o upd_same))) (ow.rep (st'.dj p o upd_same))
  | exc c fs E' => exact fun q => q
  | bad => exact fun q => q
end
end FL

namespace FL
open PySem PySem.Spec PyProof.Rows L2

/-! ## statements -/
def fSeq (s t : Nv → R Fl) : Nv → R Fl := fun E => match s E with
  | .val .nx E1 => t E1
  | r => r
def fNx : Nv → R Fl := fun E => .val .nx E
def fBrk : Nv → R Fl := fun E => .val .bk E
def fCnt : Nv → R Fl := fun E => .val .ct E
def fDrop (f : Nv → R D) : Nv → R Fl := fun E => (f E).bind fun _ E1 => .val .nx E1
def fRet (f : Nv → R D) : Nv → R Fl := fun E => (f E).bind fun d E1 => .val (.rt d) E1
def fRetN (f : Nv → R D) : Nv → R Fl := fun E => (f E).bind fun d E1 => .val (.rn d) E1
def fRetO (i : Nat) : Nv → R Fl := fun E => match E[i]? with
  | some (.own d) => .val (.rn d) (E.set i .no)
  | _ => .bad
def fRet0 : Nv → R Fl := fun E => .val (.rt .non) E
def fSet (i : Nat) (f : Nv → R D) : Nv → R Fl := fun E => (f E).bind fun d E1 => .val .nx (E1.set i (.fz d))
def fSetN (i : Nat) (f : Nv → R D) : Nv → R Fl := fun E => (f E).bind fun d E1 => .val .nx (E1.set i (.own d))
def fBad {α : Type} : Nv → R α := fun _ => .bad
section
variable {X : Cx} {g : Gm} {W : WX} {e a b c : Expr} {es : List Expr} {pos : Pos} {st : Stmt} {sts : List Stmt}
theorem fss_nil : FSs X g W [] fNx := pssImp pss_nil fun D σ H ⟨ρ, G, E, F, st, q⟩ => q σ F H st (Same.refl _)
theorem fss_cons {s t : Nv → R Fl} (h : FS X g W st s) (k : FSs X g W sts t) : FSs X g W (st :: sts) (fSeq s t) := pssImp (pss_cons h k) fun D σ H ⟨ρ, G, E, F, st, q⟩ => by
  refine ⟨ρ, G, E, F, st, ?_⟩
  unfold fSeq at q
  revert q
  cases s E with
  | val fl E1 =>
    cases fl with
    | nx => exact fun q σ' F' H' st' ss => ⟨ρ, G, E1, F', st', postS.mono ss q⟩
    | rt d => exact fun q => q
    | rn d => exact fun q => q
    | bk => exact fun q => q
    | ct => exact fun q => q
  | exc c f E1 => exact fun q => q
  | bad => exact fun q => q
theorem fss_one {s : Nv → R Fl} (h : FS X g W st s) : FSs X g W [st] s := pss_one h
theorem fss_never : FSs X g W sts fBad := pssImp pss_never fun D σ H ⟨ρ, G, E, F, st, q⟩ => q
theorem fs_never : FS X g W st fBad := psImp ps_never fun D σ H ⟨ρ, G, E, F, st, q⟩ => q
theorem fs_pass : FS X g W (.Pass pos) fNx := psImp ps_pass fun D σ H ⟨ρ, G, E, F, st, q⟩ => q σ F H st (Same.refl _)
theorem fs_break : FS X g W (.Break pos) fBrk := psImp ps_break fun D σ H ⟨ρ, G, E, F, st, q⟩ => q σ F H st (Same.refl _)
theorem fs_continue : FS X g W (.Continue pos) fCnt := psImp ps_continue fun D σ H ⟨ρ, G, E, F, st, q⟩ => q σ F H st (Same.refl _)
theorem fs_doc {x j pos pos'} : FS X g W (.Expr (.Constant (.str x) j pos) pos') fNx := psImp ps_doc fun D σ H ⟨ρ, G, E, F, st, q⟩ => q σ F H st (Same.refl _)
theorem fs_expr {f : Nv → R D} (h : PS X st (tDrop (tG g W (relD g) f))) : FS X g W st (fDrop f) := psImp h fun D σ H ⟨ρ, G, E, F, st, q⟩ =>
  bindS st q fun d E1 v F1 H1 st1 s1 r1 q1 => q1 σ F1 H1 st1 (Same.refl _)
theorem fs_ret {f : Nv → R D} (h : FE X g W e f) : FS X g W (.Return (some e) pos) (fRet f) := psImp (ps_ret h) fun D σ H ⟨ρ, G, E, F, st, q⟩ =>
  bindS st q fun d E1 v F1 H1 st1 s1 r1 q1 => q1 v σ F1 H1 st1 (Same.refl _) r1
theorem fs_retN {f : Nv → R D} (h : FN X g W e f) : FS X g W (.Return (some e) pos) (fRetN f) := psImp (ps_ret h) fun D σ H ⟨ρ, G, E, F, st, q⟩ =>
  bindNS st q fun d E1 p o F1 H1 st1 n ow s q1 => q1 p o σ F1 H1 st1 n ow (Same.refl _)
theorem fs_retO {i : Nat} (h : PE X e (tVar i)) : FS X g W (.Return (some e) pos) (fRetO i) := psImp (ps_ret h) fun D σ H ⟨ρ, G, E, F, st, q⟩ => by
  unfold fRetO at q
  cases z : E[i]? with
  | none => simp only [z] at q; exact q.elim
  | some s =>
    simp only [z] at q
    cases s with
    | own d =>
      obtain ⟨p, x, _, _, o, hp, _⟩ := st.at z rfl
      obtain ⟨st1, gn, ow⟩ := st.give z rfl x hp
      exact ⟨.ref p, x, q p o σ F H st1 gn ow (Same.refl _)⟩
    | _ => exact q.elim
theorem fs_ret0 : FS X g W (.Return none pos) fRet0 := psImp ps_retN fun D σ H ⟨ρ, G, E, F, st, q⟩ => q .non σ F H st (Same.refl _) rfl
theorem fs_if {t : Nv → R Bool} {sa sb : Nv → R Fl} {la lb : List Stmt} (ht : FT X g W c t) (ha : FSs X g W la sa) (hb : FSs X g W lb sb) : FS X g W (.If c la lb pos) (fIf t sa sb) := psImp (ps_if ht ha hb) fun D σ H ⟨ρ, G, E, F, st, q⟩ =>
  bindS st q fun k E1 c F1 H1 st1 s1 r1 q1 => by
    obtain rfl : k = c := r1
    cases k with
    | true => rw [if_pos rfl]; exact ⟨ρ, G, E1, F1, st1, q1⟩
    | false => rw [if_neg Bool.false_ne_true]; exact ⟨ρ, G, E1, F1, st1, q1⟩
theorem fs_set {i : Nat} {f : Nv → R D} (h : PS X st (tAsg (tG g W (relD g) f) (gName i))) : FS X g W st (fSet i f) := psImp h fun D σ H ⟨ρ, G, E, F, st, q⟩ =>
  bindS st q fun d E1 v F1 H1 st1 s1 r1 q1 => q1 _ F1 H1 (st1.store r1) (Same.refl _)
theorem fs_setN {i : Nat} {f : Nv → R D} (h : PS X st (tAsg (tN g W f) (gName i))) : FS X g W st (fSetN i f) := psImp h fun D σ H ⟨ρ, G, E, F, st, q⟩ =>
  bindNS st q fun d E1 p o F1 H1 st1 n ow s q1 => q1 _ F1 H1 (st1.take n ow) (Same.refl _)
end

/-! ## targets -/
abbrev Bd := D → Nv → Option Nv
def tGt (g : Gm) (b : Bd) : TG := fun v σ H Q => ∃ ρ G E F d, StOk g ρ G E F σ H ∧ Rep g F d v ∧ ∃ E', b d E = some E' ∧ ∀ σ' F' H', StOk g ρ G E' F' σ' H' → Same F F' → Q σ' H'
def bAll : List Bd → List D → Nv → Option Nv
  | [], [], E => some E
  | b :: bs, d :: ds, E => (b d E).bind fun E1 => bAll bs ds E1
  | _, _, _ => none
def tGts (g : Gm) (bs : List Bd) : TGs := fun vs σ H Q => ∃ ρ G E F ds, StOk g ρ G E F σ H ∧ RepL g F ds vs ∧ ∃ E', bAll bs ds E = some E' ∧ ∀ σ' F' H', StOk g ρ G E' F' σ' H' → Same F F' → Q σ' H'
def bName (i : Nat) : Bd := fun d E => some (E.set i (.fz d))
def bTup (bs : List Bd) : Bd := fun d E => match d with
  | .tup ds => bAll bs ds E
  | _ => none
theorem bAll_len : ∀ {bs : List Bd} {ds : List D} {E E' : Nv}, bAll bs ds E = some E' → ds.length = bs.length
  | [], [], _, _, _ => rfl
  | _ :: bs, _ :: ds, _, _, h => by
    unfold bAll at h
    obtain ⟨E1, _, h2⟩ := Option.bind_eq_some_iff.mp h
    simp [bAll_len h2]
  | [], _ :: _, _, _, h => by simp [bAll] at h
  | _ :: _, [], _, _, h => by simp [bAll] at h
section
variable {X : Cx} {g : Gm} {W : WX} {e t : Expr} {es : List Expr} {pos : Pos} {st : Stmt}
theorem pgImp {r r' : TG} (h : PG X t r) (i : ∀ v σ H Q, r' v σ H Q → r v σ H Q) : PG X t r' := ⟨fun pins s σ H v u Q I rv q => h.run pins s σ H v u Q I rv (i v σ H Q q)⟩
theorem pgsImp {r r' : TGs} (h : PGs X es r) (i : ∀ v σ H Q, r' v σ H Q → r v σ H Q) : PGs X es r' := ⟨fun pins s σ H v u Q I rv q => h.run pins s σ H v u Q I rv (i v σ H Q q)⟩
theorem fg_name {i : Nat} (h : PG X t (gName i)) : PG X t (tGt g (bName i)) := pgImp h fun v σ H Q ⟨ρ, G, E, F, d, st, r, E', e, q⟩ => by
  cases e
  exact q _ F H (st.store r) (Same.refl _)
theorem fgs_nil : PGs X [] (tGts g []) := pgsImp pgs_nil fun vs σ H Q ⟨ρ, G, E, F, ds, st, r, E', e, q⟩ => by
  cases ds with
  | nil => cases e; exact ⟨r, q σ F H st (Same.refl _)⟩
  | cons d ds => cases e
theorem fgs_cons {b : Bd} {bs : List Bd} (h : PG X e (tGt g b)) (k : PGs X es (tGts g bs)) (hs : (assignEach (e :: es) X.env).map (·.2) = assign e X.env :: (assignEach es X.env).map (·.2) := by rfl) : PGs X (e :: es) (tGts g (b :: bs)) :=
  pgsImp (pgs_cons h k hs) fun vs σ H Q ⟨ρ, G, E, F, ds, st, r, E', e, q⟩ => by
    cases ds with
    | nil => cases e
    | cons d ds =>
      obtain ⟨x, xs, rfl, r1, r2⟩ := r
      obtain ⟨E1, e1, e2⟩ := Option.bind_eq_some_iff.mp e
      exact ⟨x, xs, rfl, ρ, G, E, F, d, st, r1, E1, e1, fun σ1 F1 H1 st1 s1 => ⟨ρ, G, E1, F1, ds, st1, r2.mono s1, E', e2, fun σ' F' H' st' s' => q σ' F' H' st' (s1.trans s')⟩⟩
theorem fg_tup {bs : List Bd} {k : Nat} (hc : X.calm = true) (h : PGs X es (tGts g bs)) (hK : X.K = g.K) (hn : (assignEach es X.env).length = bs.length := by rfl) (hst : (assignEach es X.env).findIdx? (·.1) = none := by rfl) : PG X (.Tuple es k pos) (tGt g (bTup bs)) :=
  pgImp (pg_tup hc h hn hst) fun v σ H Q ⟨ρ, G, E, F, d, st, r, E', e, q⟩ => by
    cases d with
    | tup ds =>
      obtain ⟨a, xs, rfl, rx, rl⟩ := r
      refine ⟨a, xs, rfl, by rw [hK]; exact same_t st.sf rx, ?_, ρ, G, E, F, ds, st, rl, E', e, q⟩
      rw [← rl.length]; exact bAll_len e
    | _ => cases e
def fAsg (f : Nv → R D) (b : Bd) : Nv → R Fl := fun E => (f E).bind fun d E1 => match b d E1 with
  | some E2 => .val .nx E2
  | none => .bad
theorem fs_asg {f : Nv → R D} {b : Bd} (h : PS X st (tAsg (tG g W (relD g) f) (tGt g b))) : FS X g W st (fAsg f b) := psImp h fun D σ H ⟨ρ, G, E, F, st, q⟩ =>
  bindS st q fun d E1 v F1 H1 st1 s1 r1 q1 => by
    cases z : b d E1 with
    | none => simp only [z] at q1; exact q1.elim
    | some E2 =>
      simp only [z] at q1
      exact ⟨ρ, G, E1, F1, d, st1, r1, E2, z, q1⟩
/-- a, b = x, y -/
def fPar (i j : Nat) (f h : Nv → R D) : Nv → R Fl := fun E => (f E).bind fun d E1 => (h E1).bind fun e E2 => .val .nx ((E2.set i (.fz d)).set j (.fz e))
theorem fs_par {i j : Nat} {f h : Nv → R D} (k : PS X st (tPar i j (tCons (tG g W (relD g) f) (tCons (tG g W (relD g) h) tNil)))) : FS X g W st (fPar i j f h) := psImp k fun D σ H ⟨ρ, G, E, F, st, q⟩ =>
  bindS st q fun d E1 v F1 H1 st1 s1 r1 q1 => bindS st1 q1 fun e E2 u F2 H2 st2 s2 r2 q2 =>
    ⟨v, u, rfl, q2 _ F2 H2 ((st2.store (r1.mono s2)).store r2) (Same.refl _)⟩
def fParNE (i j : Nat) (f h : Nv → R D) : Nv → R Fl := fun E => (f E).bind fun d E1 => (h E1).bind fun e E2 => .val .nx ((E2.set i (.own d)).set j (.fz e))
theorem fs_parNE {i j : Nat} {f h : Nv → R D} (k : PS X st (tPar i j (tCons (tN g W f) (tCons (tG g W (relD g) h) tNil)))) : FS X g W st (fParNE i j f h) := psImp k fun D σ H ⟨ρ, G, E, F, st, q⟩ =>
  bindNS st q fun d E1 p o F1 H1 st1 gn ow s1 q1 => by
    refine ⟨ρ, _, E1, F1, st1, ?_⟩
    revert q1
    cases h E1 with
    | val e E2 => exact fun q1 u F2 H2 st2 s2 r2 => ⟨.ref p, u, rfl, q1 _ F2 H2 ((st2.take gn (ow.mono s2)).store r2) s2⟩
    | exc c fs E' => exact fun q1 dx F' H' st' s x => q1 dx σ F' H' (st'.untemp gn) s x
    | bad => exact fun q1 => q1
def fParEN (i j : Nat) (f h : Nv → R D) : Nv → R Fl := fun E => (f E).bind fun d E1 => (h E1).bind fun e E2 => .val .nx ((E2.set i (.fz d)).set j (.own e))
theorem fs_parEN {i j : Nat} {f h : Nv → R D} (k : PS X st (tPar i j (tCons (tG g W (relD g) f) (tCons (tN g W h) tNil)))) : FS X g W st (fParEN i j f h) := psImp k fun D σ H ⟨ρ, G, E, F, st, q⟩ =>
  bindS st q fun d E1 v F1 H1 st1 s1 r1 q1 => bindNS st1 q1 fun e E2 p o F2 H2 st2 gn ow s2 q2 =>
    ⟨v, .ref p, rfl, q2 _ F2 H2 ((st2.store (r1.mono s2)).take gn ow) (Same.refl _)⟩
def fParNN (i j : Nat) (f h : Nv → R D) : Nv → R Fl := fun E => (f E).bind fun d E1 => (h E1).bind fun e E2 => .val .nx ((E2.set i (.own d)).set j (.own e))
theorem fs_parNN {i j : Nat} {f h : Nv → R D} (k : PS X st (tPar i j (tCons (tN g W f) (tCons (tN g W h) tNil)))) : FS X g W st (fParNN i j f h) := psImp k fun D σ H ⟨ρ, G, E, F, st, q⟩ =>
  bindNS st q fun d E1 p o F1 H1 st1 gn ow s1 q1 => by
    refine ⟨ρ, _, E1, F1, st1, ?_⟩
    revert q1
    cases h E1 with
    | val e E2 =>
      refine fun q1 p2 o2 F2 H2 st2 gn2 ow2 s2 => ⟨.ref p, .ref p2, rfl, q1 _ F2 H2 ?_ s2⟩
      have ne : p2 ≠ p := fun z => by rw [z, upd_same] at gn2; cases gn2
      have comm : upd (upd G p o) p2 o2 = upd (upd G p2 o2) p o := by
        funext b
        unfold upd
        by_cases h1 : b = p <;> by_cases h2 : b = p2
        · exact absurd (h2.symm.trans h1) ne
        · rw [if_neg h2, if_pos h1, if_pos h1]
        · rw [if_pos h2, if_neg h1, if_pos h2]
        · rw [if_neg h2, if_neg h1, if_neg h1, if_neg h2]
      rw [comm] at st2
      have g2 : G p2 = none := by rw [upd_ne ne] at gn2; exact gn2
      exact (st2.take (by rw [upd_ne (Ne.symm ne)]; exact gn) (ow.mono s2)).take g2 ow2
    | exc c fs E' => exact fun q1 dx F' H' st' s x => q1 dx σ F' H' (st'.untemp gn) s x
    | bad => exact fun q1 => q1
end

/-! ## an owned list, written -/
def setIx (j : Nat) (d k : D) (E : Nv) : R Fl := match E[j]? with
  | some s => match s.cell, k with
    | some (.lst ds), .int i => match ixN ds.length i with
      | some m => .val .nx (E.set j (s.put (.lst (ds.set m d))))
      | none => .bad
    | _, _ => .bad
  | none => .bad
def fSetIx (j : Nat) (fi f : Nv → R D) : Nv → R Fl := fun E => (f E).bind fun d E1 => (fPk j E1).bind fun _ E2 => (fi E2).bind fun k E3 => setIx j d k E3
/-- a method of an owned slot's object: its content and the operands to its answer and the new content -/
def MtOk (g : Gm) (r : V → List V → Hp → VK → Prop) (o : D → List D → Option (D × D)) : Prop := ∀ (F H : Hp) (p : Addr) (ob : HO) (vs : List V) (d z d' : D) (ds : List D) (Q : VK), Same F H → F p = none → H p = some ob → OwnO g F d ob → RepL g F ds vs → o d ds = some (z, d') →
  (∀ w ob', OwnO g F d' ob' → Rep g F z w → Q w (upd H p ob')) → r (.ref p) vs H Q
def isLst : D → Bool
  | .lst _ => true
  | _ => false
def resMt (j : Nat) (o : D → List D → Option (D × D)) (as : List Ar) (E : Nv) : R D := match valsOf as with
  | none => .bad
  | some ds => match E[j]? with
    | none => .bad
    | some s => match s.cell with
      | none => .bad
      | some c => match o c ds with
        | none => .bad
        | some zc => .val zc.1 (E.set j (s.put zc.2))
def fMt (j : Nat) (o : D → List D → Option (D × D)) (fs : Nv → R (List Ar)) : Nv → R D := fun E => (fPk j E).bind fun _ E1 => match Ar.get E1 (.pk j) with
  | none => .bad
  | some c => if isLst c = true then (fs E1).bind fun as E2 => resMt j o as E2 else .bad
section
variable {X : Cx} {g : Gm} {W : WX} {e t : Expr} {es : List Expr} {pos : Pos} {st : Stmt}
theorem fPk_pk {j : Nat} {E E1 : Nv} {a : Ar} (h : fPk j E = .val a E1) : a = .pk j ∧ E1 = E := by
  unfold fPk at h
  split at h
  · split at h
    · cases h; exact ⟨rfl, rfl⟩
    · cases h
  · cases h
theorem fs_setIx {j : Nat} {fi f : Nv → R D} (h : PS X st (tAsg (tG g W (relD g) f) (gSub (tG g W (relA g) (fPk j)) (tG g W (relD g) fi) rSetL))) : FS X g W st (fSetIx j fi f) := psImp h fun D σ H ⟨ρ, G, E, F, st, q⟩ =>
  bindS st q fun d E1 v F1 H1 st1 s1 r1 q1 => by
    have pk : ∀ a E', fPk j E1 = .val a E' → a = .pk j := fun a E' z => (fPk_pk z).1
    refine ⟨ρ, G, E1, F1, st1, ?_⟩
    revert q1
    cases z : fPk j E1 with
    | exc c fs E' => exact fun q1 dx F' H' st' s x => q1 dx σ F' H' st' s x
    | bad => exact fun q1 => q1
    | val a E2 =>
      obtain ⟨rfl, rfl⟩ := fPk_pk z
      intro q1 x F2 H2 st2 s2 hx
      have hx : σ[j]? = some (some x) := hx
      refine bindS st2 (postS.mono s2 q1) fun k E3 iv F3 H3 st3 s3 r3 q3 => ?_
      unfold setIx at q3
      cases z : E3[j]? with
      | none => simp only [z] at q3; exact q3.elim
      | some s =>
        simp only [z] at q3
        cases c : s.cell with
        | none => simp only [c] at q3; exact q3.elim
        | some cd =>
          simp only [c] at q3
          cases cd with
          | lst ds =>
            cases k with
            | int i =>
              simp only at q3
              cases m : ixN ds.length i with
              | none => simp only [m] at q3; exact q3.elim
              | some mm =>
                simp only [m] at q3
                obtain ⟨p, y, fp, _, o, hp, xs, e0, rl⟩ := st3.at z c
                subst e0
                rw [hx] at y
                cases y
                obtain rfl : iv = .int i := r3
                exact ⟨p, xs, i, mm, rfl, rfl, hp, by rw [← rl.length]; exact m, q3 σ F3 _ (st3.write z c hx ⟨_, rfl, rl.set (r1.mono (s2.trans s3))⟩) (Same.refl _)⟩
            | _ => exact q3.elim
          | _ => exact q3.elim
theorem fe_mt {j : Nat} {r : V → List V → Hp → VK → Prop} {o : D → List D → Option (D × D)} {fs : Nv → R (List Ar)} (hr : MtOk g r o) (h : PE X e (tBM X.K "list" r (tG g W (relA g) (fPk j)) (tG g W (relAs g) fs))) : FE X g W e (fMt j o fs) :=
  peImp h fun σ H Q ⟨ρ, G, E, F, st, q⟩ => by
    refine ⟨ρ, G, E, F, st, ?_⟩
    unfold fMt at q
    revert q
    cases z : fPk j E with
    | exc c fs E' => exact fun q => q
    | bad => exact fun q => q
    | val a E1 =>
      obtain ⟨rfl, rfl⟩ := fPk_pk z
      intro q x F1 H1 st1 s1 hx
      have q : post g W (relD g) ρ G F σ Q (match Ar.get E1 (.pk j) with
        | none => .bad
        | some c => if isLst c = true then (fs E1).bind fun as E2 => resMt j o as E2 else .bad) := q
      cases z1 : Ar.get E1 (.pk j) with
      | none => simp only [z1] at q; exact q.elim
      | some c =>
        simp only [z1] at q
        have rh := ar_ok st1 (show ArOk g F1 σ (.pk j) x from hx) z1
        by_cases hc : isLst c = true
        · rw [if_pos hc] at q
          cases c with
          | lst ds =>
            obtain ⟨p, xs, rfl, hp, _⟩ := rh.lst st1.sf
            refine ⟨.inl ⟨rfl, xs, .of hp⟩, bindE st1 (post.mono s1 q) fun as E2 vs F2 H2 st2 s2 r2 q2 => ?_⟩
            unfold resMt at q2
            cases z2 : valsOf as with
            | none => simp only [z2] at q2; exact q2.elim
            | some es =>
              simp only [z2] at q2
              cases z3 : E2[j]? with
              | none => simp only [z3] at q2; exact q2.elim
              | some s =>
                simp only [z3] at q2
                cases z4 : s.cell with
                | none => simp only [z4] at q2; exact q2.elim
                | some c2 =>
                  simp only [z4] at q2
                  cases z5 : o c2 es with
                  | none => simp only [z5] at q2; exact q2.elim
                  | some zc =>
                    simp only [z5] at q2
                    obtain ⟨zz, c'⟩ := zc
                    obtain ⟨p2, y, fp, _, ob, hp2, ow⟩ := st2.at z3 z4
                    have hx' : σ[j]? = some (some (.ref p)) := hx
                    rw [hx'] at y
                    cases y
                    exact hr F2 H2 p ob vs c2 zz c' es Q st2.sf fp hp2 ow (valsOf_ok r2 z2) z5 fun w ob' ow' rw' => q2 w F2 _ (st2.write z3 z4 hx' ow') (Same.refl _) rw'
          | _ => simp [isLst] at hc
        · rw [if_neg hc] at q
          exact q.elim
end

/-! ## loops -/
structure Walks (g : Gm) (F : Hp) (J : It) (ds : List D) : Prop where
  goes : ∀ i H F2, Same F F2 → Same F2 H → i < ds.length → J.go i H
  stops : ∀ H F2, Same F F2 → Same F2 H → J.stop ds.length H
  yields : ∀ i H F2 x H', Same F F2 → Same F2 H → i < ds.length → J.yld i H x H' → ∃ d F3, ds[i]? = some d ∧ Grow g F2 H F3 H' ∧ Rep g F3 d x
def postI (g : Gm) (W : WX) (ρ : Nat → Addr) (G F : Hp) (σ : L2.St) (Q : It → Hp → Prop) : R (List D) → Prop
  | .val ds E' => ∀ J F' H', StOk g ρ G E' F' σ H' → Same F F' → Walks g F' J ds → Q J H'
  | .exc c fs E' => postX g W ρ G F σ c fs E'
  | .bad => False
def tI (g : Gm) (W : WX) (f : Nv → R (List D)) : TI := fun σ H Q => ∃ ρ G E F, StOk g ρ G E F σ H ∧ postI g W ρ G F σ Q (f E)
abbrev FI (X : Cx) (g : Gm) (W : WX) (tg e : Expr) (f : Nv → R (List D)) : Prop := PI X tg e (tI g W f)
def forL (b : Bd) (s : Nv → R Fl) : List D → Nv → R Fl
  | [], E => .val .nx E
  | d :: ds, E => match b d E with
    | none => .bad
    | some E1 => match s E1 with
      | .val .nx E2 => forL b s ds E2
      | .val .ct E2 => forL b s ds E2
      | .val .bk E2 => .val .nx E2
      | .val (.rt x) E2 => .val (.rt x) E2
      | .val (.rn x) E2 => .val (.rn x) E2
      | .exc c f E2 => .exc c f E2
      | .bad => .bad
def fFor (fi : Nv → R (List D)) (b : Bd) (s : Nv → R Fl) : Nv → R Fl := fun E => (fi E).bind fun ds E1 => forL b s ds E1
def whileN (t : Nv → R Bool) (s : Nv → R Fl) : Nat → Nv → R Fl
  | 0, _ => .bad
  | n + 1, E => (t E).bind fun k E1 => if k = true then (match s E1 with
      | .val .nx E2 => whileN t s n E2
      | .val .ct E2 => whileN t s n E2
      | .val .bk E2 => .val .nx E2
      | .val (.rt x) E2 => .val (.rt x) E2
      | .val (.rn x) E2 => .val (.rn x) E2
      | .exc c f E2 => .exc c f E2
      | .bad => .bad) else .val .nx E1
section
variable {X : Cx} {g : Gm} {W : WX} {e t : Expr} {es : List Expr} {pos : Pos} {st : Stmt}
theorem piImp {tg e : Expr} {r r' : TI} (h : PI X tg e r) (i : ∀ σ H Q, r' σ H Q → r σ H Q) : PI X tg e r' := ⟨fun pins s σ H Q I q => h.run pins s σ H Q I (i σ H Q q)⟩
theorem fs_for {fi : Nv → R (List D)} {b : Bd} {s : Nv → R Fl} (h : PS X st (tFor (tI g W fi) (tGt g b) (tS g W s))) : FS X g W st (fFor fi b s) := psImp h fun D σ H ⟨ρ, G, E, F, st, q⟩ => by
  refine ⟨ρ, G, E, F, st, ?_⟩
  unfold fFor at q
  revert q
  cases fi E with
  | exc c fs E' => exact fun q dx F' H' st' s x => q dx σ F' H' st' s x
  | bad => exact fun q => q
  | val ds E1 =>
    intro q J F1 H1 st1 s1 w
    have q : postS g W ρ G F D (forL b s ds E1) := q
    refine ⟨fun i m σ H => i ≤ ds.length ∧ m = ds.length - i ∧ ∃ F2 E2, StOk g ρ G E2 F2 σ H ∧ Same F1 F2 ∧ postS g W ρ G F2 D (forL b s (ds.drop i) E2), ⟨_, Nat.zero_le _, rfl, F1, E1, st1, Same.refl _, postS.mono s1 (by simpa using q)⟩, ?_⟩
    rintro i m σ2 H2 ⟨hi, rfl, F2, E2, st2, s2, q2⟩
    by_cases hlt : i < ds.length
    · refine .inr ⟨w.goes i H2 F2 s2 st2.sf hlt, fun σ' H' => i + 1 ≤ ds.length ∧ ∃ F2 E2, StOk g ρ G E2 F2 σ' H' ∧ Same F1 F2 ∧ postS g W ρ G F2 D (forL b s (ds.drop (i + 1)) E2), fun σ' H' ⟨a, r⟩ => ⟨ds.length - (i + 1), by omega, a, rfl, r⟩, fun x H3 y => ?_⟩
      obtain ⟨d, F3, hd, gr, r⟩ := w.yields i H2 F2 x H3 s2 st2.sf hlt y
      have hdrop : ds.drop i = d :: ds.drop (i + 1) := by
        rw [List.drop_eq_getElem_cons hlt]
        rw [List.getElem?_eq_getElem hlt] at hd
        rw [Option.some.inj hd]
      rw [hdrop] at q2
      unfold forL at q2
      cases z : b d E2 with
      | none => simp only [z] at q2; exact q2.elim
      | some E3 =>
        simp only [z] at q2
        refine ⟨ρ, G, E2, F3, d, gr.2 _ _ _ _ st2, r, E3, z, fun σ4 F4 H4 st4 s4 => ⟨ρ, G, E3, F4, st4, ?_⟩⟩
        have q3 := postS.mono (gr.1.trans s4) q2
        have s14 : Same F1 F4 := s2.trans (gr.1.trans s4)
        revert q3
        cases s E3 with
        | exc c f E5 => exact fun q => q
        | bad => exact fun q => q
        | val fl E5 =>
          cases fl with
          | nx => exact fun q σ5 F5 H5 st5 s5 => ⟨hlt, F5, E5, st5, s14.trans s5, postS.mono s5 q⟩
          | ct => exact fun q σ5 F5 H5 st5 s5 => ⟨hlt, F5, E5, st5, s14.trans s5, postS.mono s5 q⟩
          | bk => exact fun q => q
          | rt x => exact fun q => q
          | rn x => exact fun q => q
    · have e : i = ds.length := by omega
      subst e
      rw [List.drop_length] at q2
      exact .inl ⟨w.stops H2 F2 s2 st2.sf, q2 σ2 F2 H2 st2 (Same.refl _)⟩
theorem fs_while {ft : Nv → R Bool} {s : Nv → R Fl} (n : Nat) (h : PS X st (tWhile (tG g W relB ft) (tS g W s))) : FS X g W st (whileN ft s n) := psImp h fun D σ H ⟨ρ, G, E, F, st, q⟩ => by
  refine ⟨fun m σ H => ∃ E F, StOk g ρ G E F σ H ∧ postS g W ρ G F D (whileN ft s m E), ⟨n, E, F, st, q⟩, ?_⟩
  rintro m σ2 H2 ⟨E2, F2, st2, q2⟩
  cases m with
  | zero => exact q2.elim
  | succ m =>
    refine bindS st2 q2 fun k E3 c F3 H3 st3 s3 r3 q3 => ?_
    obtain rfl : k = c := r3
    cases k with
    | false => rw [if_neg Bool.false_ne_true]; exact q3 σ2 F3 H3 st3 (Same.refl _)
    | true =>
      rw [if_pos rfl]
      refine ⟨fun σ' H' => ∃ E F, StOk g ρ G E F σ' H' ∧ postS g W ρ G F D (whileN ft s m E), fun σ' H' r => ⟨m, Nat.lt_succ_self _, r⟩, ρ, G, E3, F3, st3, ?_⟩
      rw [if_pos rfl] at q3
      revert q3
      cases s E3 with
      | exc c f E5 => exact fun q => q
      | bad => exact fun q => q
      | val fl E5 =>
        cases fl with
        | nx => exact fun q σ5 F5 H5 st5 s5 => ⟨E5, F5, st5, postS.mono s5 q⟩
        | ct => exact fun q σ5 F5 H5 st5 s5 => ⟨E5, F5, st5, postS.mono s5 q⟩
        | bk => exact fun q => q
        | rt x => exact fun q => q
        | rn x => exact fun q => q
end

/-! ## comprehensions -/
def wipeE (E : Nv) : List Nat → Nv
  | [] => E
  | v :: vs => (wipeE E vs).set v .no
def keepF : Option Sl → Sl
  | some (.fz d) => .fz d
  | _ => .no
/-- behind the block: E2, but the block's names as they were in E1 -/
def restoreE (E1 E2 : Nv) : List Nat → Nv
  | [] => E2
  | v :: vs => (restoreE E1 E2 vs).set v (keepF E1[v]?)
def R.nox {α : Type} : R α → R α
  | .exc _ _ _ => .bad
  | r => r
def lcL (b : Bd) (t : Nv → R Bool) (f : Nv → R D) (vs : List Nat) : List D → List D → Nv → R (List D)
  | [], acc, E => .val acc E
  | d :: ds, acc, E => match b d E with
    | none => .bad
    | some E1 => (t E1).nox.bind fun k E2 => if k = true then (f E2).nox.bind fun x E3 => if acc.length < sizeLine then lcL b t f vs ds (acc ++ [x]) (wipeE E3 vs) else .bad else lcL b t f vs ds acc (wipeE E2 vs)
def fLc (fi : Nv → R (List D)) (b : Bd) (t : Nv → R Bool) (f : Nv → R D) (vs : List Nat) : Nv → R D := fun E => (fi E).bind fun ds E1 => (lcL b t f vs ds [] (wipeE E1 vs)).bind fun xs E2 => .val (.lst xs) (restoreE E1 E2 vs)
def tYesF : Nv → R Bool := fun E => .val true E
/-- nothing leaves -/
def W0 : WX := fun _ _ _ _ => False
theorem wipeE_length (E : Nv) : ∀ vs : List Nat, (wipeE E vs).length = E.length
  | [] => rfl
  | v :: vs => by unfold wipeE; rw [List.length_set, wipeE_length E vs]
theorem restoreE_length (E1 E2 : Nv) : ∀ vs : List Nat, (restoreE E1 E2 vs).length = E2.length
  | [] => rfl
  | v :: vs => by unfold restoreE; rw [List.length_set, restoreE_length E1 E2 vs]
theorem wipeE_get {E : Nv} {i : Nat} {s : Sl} : ∀ {vs : List Nat}, (wipeE E vs)[i]? = some s → (E[i]? = some s ∧ i ∉ vs) ∨ s = .no
  | [], h => .inl ⟨h, by simp⟩
  | v :: vs, h => by
    unfold wipeE at h
    by_cases hi : v = i
    · subst hi
      have hv := (List.getElem?_eq_some_iff.mp h).1
      rw [List.length_set] at hv
      rw [List.getElem?_set_self hv] at h
      exact .inr (Option.some.inj h).symm
    · rw [List.getElem?_set_ne hi] at h
      rcases wipeE_get h with ⟨a, b⟩ | a
      · exact .inl ⟨a, by simp only [List.mem_cons, not_or]; exact ⟨fun e => hi e.symm, b⟩⟩
      · exact .inr a
theorem restoreE_get {E1 E2 : Nv} {i : Nat} {s : Sl} : ∀ {vs : List Nat}, (restoreE E1 E2 vs)[i]? = some s → (E2[i]? = some s ∧ i ∉ vs) ∨ s = keepF E1[i]?
  | [], h => .inl ⟨h, by simp⟩
  | v :: vs, h => by
    unfold restoreE at h
    by_cases hi : v = i
    · subst hi
      have hv := (List.getElem?_eq_some_iff.mp h).1
      rw [List.length_set] at hv
      rw [List.getElem?_set_self hv] at h
      exact .inr (Option.some.inj h).symm
    · rw [List.getElem?_set_ne hi] at h
      rcases restoreE_get h with ⟨a, b⟩ | a
      · exact .inl ⟨a, by simp only [List.mem_cons, not_or]; exact ⟨fun e => hi e.symm, b⟩⟩
      · exact .inr a
theorem wipe_other {σ : L2.St} {i : Nat} : ∀ {vs : List Nat}, i ∉ vs → (wipe σ vs)[i]? = σ[i]?
  | [], _ => rfl
  | v :: vs, h => by
    unfold wipe
    simp only [List.mem_cons, not_or] at h
    rw [List.getElem?_set_ne (fun e => h.1 e.symm)]
    exact wipe_other h.2
section
variable {X : Cx} {g : Gm} {W : WX} {e t : Expr} {es : List Expr} {pos : Pos} {st : Stmt} {ρ : Nat → Addr} {G F H : Hp} {E : Nv} {σ : L2.St}
theorem StOk.wiped (st : StOk g ρ G E F σ H) (vs : List Nat) : StOk g ρ G (wipeE E vs) F (wipe σ vs) H := st.reslot (by rw [wipeE_length, wipe_length]; exact st.len) fun i s h => by
  rcases wipeE_get h with ⟨a, b⟩ | a
  · exact .inl ⟨a, wipe_other b⟩
  · exact .inr (.inl a)
/-- only the block's names changed -/
theorem StOk.wiped2 {σ2 : L2.St} (st : StOk g ρ G E F σ2 H) (vs : List Nat) (h : wipe σ2 vs = wipe σ vs) : StOk g ρ G (wipeE E vs) F (wipe σ vs) H := by
  rw [← h]; exact st.wiped vs
theorem StOk.restored {vs : List Nat} {E1 : Nv} {F1 G1 H1 : Hp} (st : StOk g ρ G E F (wipe σ vs) H) (st1 : StOk g ρ G1 E1 F1 σ H1) (sm : Same F1 F) : StOk g ρ G (restoreE E1 E vs) F σ H := st.reslot (by rw [restoreE_length, st.len, wipe_length]) fun i s h => by
  rcases restoreE_get h with ⟨a, b⟩ | a
  · exact .inl ⟨a, (wipe_other b).symm⟩
  · cases z : E1[i]? with
    | none => rw [z] at a; exact .inr (.inl a)
    | some u =>
      rw [z] at a
      cases u with
      | fz d =>
        obtain ⟨v, x, r⟩ := st1.fz i d z
        exact .inr (.inr ⟨d, v, a, x, r.mono sm⟩)
      | _ => exact .inr (.inl a)
/-- a target that changes the slots vs alone -/
def tGv (g : Gm) (vs : List Nat) (b : Bd) : TG := fun v σ H Q => ∃ ρ G E F d, StOk g ρ G E F σ H ∧ Rep g F d v ∧ ∃ E', b d E = some E' ∧ ∀ σ' F' H', StOk g ρ G E' F' σ' H' → Same F F' → wipe σ' vs = wipe σ vs → Q σ' H'
def tGvs (g : Gm) (vs : List Nat) (bs : List Bd) : TGs := fun ws σ H Q => ∃ ρ G E F ds, StOk g ρ G E F σ H ∧ RepL g F ds ws ∧ ∃ E', bAll bs ds E = some E' ∧ ∀ σ' F' H', StOk g ρ G E' F' σ' H' → Same F F' → wipe σ' vs = wipe σ vs → Q σ' H'
theorem wipe_get_in {σ : L2.St} {i : Nat} : ∀ {vs : List Nat}, i ∈ vs → i < σ.length → (wipe σ vs)[i]? = some none
  | v :: vs, h, hl => by
    unfold wipe
    by_cases e : v = i
    · subst e
      rw [List.getElem?_set_self (by rw [wipe_length]; exact hl)]
    · rw [List.getElem?_set_ne e]
      rcases List.mem_cons.mp h with z | z
      · exact absurd z.symm e
      · exact wipe_get_in z hl
theorem wipe_ext {σ σ' : L2.St} {vs : List Nat} (hl : σ'.length = σ.length) (h : ∀ i, i ∉ vs → σ'[i]? = σ[i]?) : wipe σ' vs = wipe σ vs := by
  apply List.ext_getElem?
  intro i
  by_cases hi : i ∈ vs
  · by_cases hlt : i < σ.length
    · rw [wipe_get_in hi hlt, wipe_get_in hi (by omega)]
    · rw [List.getElem?_eq_none (by rw [wipe_length]; omega), List.getElem?_eq_none (by rw [wipe_length]; omega)]
  · rw [wipe_other hi, wipe_other hi]
    exact h i hi
theorem wipe_set {σ : L2.St} {vs : List Nat} {i : Nat} {x : Option V} (h : i ∈ vs) : wipe (σ.set i x) vs = wipe σ vs :=
  wipe_ext (by simp) fun j hj => List.getElem?_set_ne fun e => hj (by rw [← e]; exact h)
theorem wipe_wipe {σ : L2.St} {vs : List Nat} : wipe (wipe σ vs) vs = wipe σ vs := wipe_ext (wipe_length _ _) fun _ hj => wipe_other hj
theorem fgv_name {i : Nat} {vs : List Nat} (hi : i ∈ vs) (h : PG X t (gName i)) : PG X t (tGv g vs (bName i)) := pgImp h fun v σ H Q ⟨ρ, G, E, F, d, st, r, E', e, q⟩ => by
  cases e
  exact q _ F H (st.store r) (Same.refl _) (wipe_set hi)
theorem fgvs_nil {vs : List Nat} : PGs X [] (tGvs g vs []) := pgsImp pgs_nil fun ws σ H Q ⟨ρ, G, E, F, ds, st, r, E', e, q⟩ => by
  cases ds with
  | nil => cases e; exact ⟨r, q σ F H st (Same.refl _) rfl⟩
  | cons d ds => cases e
theorem fgvs_cons {b : Bd} {bs : List Bd} {vs : List Nat} (h : PG X e (tGv g vs b)) (k : PGs X es (tGvs g vs bs)) (hs : (assignEach (e :: es) X.env).map (·.2) = assign e X.env :: (assignEach es X.env).map (·.2) := by rfl) : PGs X (e :: es) (tGvs g vs (b :: bs)) :=
  pgsImp (pgs_cons h k hs) fun ws σ H Q ⟨ρ, G, E, F, ds, st, r, E', e, q⟩ => by
    cases ds with
    | nil => cases e
    | cons d ds =>
      obtain ⟨x, xs, rfl, r1, r2⟩ := r
      obtain ⟨E1, e1, e2⟩ := Option.bind_eq_some_iff.mp e
      exact ⟨x, xs, rfl, ρ, G, E, F, d, st, r1, E1, e1, fun σ1 F1 H1 st1 s1 w1 => ⟨ρ, G, E1, F1, ds, st1, r2.mono s1, E', e2, fun σ' F' H' st' s' w' => q σ' F' H' st' (s1.trans s') (w'.trans w1)⟩⟩
theorem fgv_tup {bs : List Bd} {vs : List Nat} {k : Nat} (hc : X.calm = true) (h : PGs X es (tGvs g vs bs)) (hK : X.K = g.K) (hn : (assignEach es X.env).length = bs.length := by rfl) (hst : (assignEach es X.env).findIdx? (·.1) = none := by rfl) : PG X (.Tuple es k pos) (tGv g vs (bTup bs)) :=
  pgImp (pg_tup hc h hn hst) fun v σ H Q ⟨ρ, G, E, F, d, st, r, E', e, q⟩ => by
    cases d with
    | tup ds =>
      obtain ⟨a, xs, rfl, rx, rl⟩ := r
      refine ⟨a, xs, rfl, by rw [hK]; exact same_t st.sf rx, ?_, ρ, G, E, F, ds, st, rl, E', e, q⟩
      rw [← rl.length]; exact bAll_len e
    | _ => cases e
theorem noxE {α β γ : Type} {rel : Hp → L2.St → α → β → Prop} {f : Nv → R α} {k : α → Nv → R γ} {Q1 : β → Hp → Prop} (P : R γ → Prop) (h : P ((f E).nox.bind k)) (hb : ¬ P .bad) (st : StOk g ρ G E F σ H)
    (cont : ∀ a E1 b F1 H1, StOk g ρ G E1 F1 σ H1 → Same F F1 → rel F1 σ a b → P (k a E1) → Q1 b H1) : tG g W0 rel f σ H Q1 := by
  refine ⟨ρ, G, E, F, st, ?_⟩
  revert h
  cases f E with
  | val a E1 => exact fun h b F1 H1 st1 s1 r1 => cont a E1 b F1 H1 st1 s1 r1 h
  | exc c fs E' => exact fun h => absurd h hb
  | bad => exact fun h => absurd h hb
abbrev FTs (X : Cx) (g : Gm) (W : WX) (ifs : List Expr) (f : Nv → R Bool) : Prop := PTs X ifs (tG g W relB f)
theorem fts_nil : FTs X g W [] tYesF := ⟨fun pins s σ H Q I ⟨ρ, G, E, F, st, q⟩ => pts_nil.run pins s σ H Q I (q true F H st (Same.refl _) rfl)⟩
theorem fts_one {f : Nv → R Bool} (h : FT X g W e f) : FTs X g W [e] f := pts_one h
/-- what the walk of a comprehension asks -/
theorem le_lc {fi : Nv → R (List D)} {b : Bd} {tf : Nv → R Bool} {f : Nv → R D} {vs : List Nat} {σ : L2.St} {H : Hp} {Q : VK} (h : tN g W (fLc fi b tf f vs) σ H Q) : tLc (tI g W fi) (tGv g vs b) (tG g W0 relB tf) (tG g W0 (relD g) f) vs σ H Q := by
  obtain ⟨ρ, G, E, F, st, q⟩ := h
  refine ⟨ρ, G, E, F, st, ?_⟩
  unfold fLc at q
  revert q
  cases fi E with
  | exc c fs E' => exact fun q => q
  | bad => exact fun q => q
  | val ds E1 =>
    intro q J F1 H1 st1 s1 w D hD
    have q : postN g W ρ G F σ Q ((lcL b tf f vs ds [] (wipeE E1 vs)).bind fun xs E2 => .val (.lst xs) (restoreE E1 E2 vs)) := q
    have gD := st1.fG hD
    refine ⟨fun i m H => i ≤ ds.length ∧ m = ds.length - i ∧ ∃ F2 E2 acc xs, StOk g ρ (upd G D (.lst xs)) E2 F2 (wipe σ vs) H ∧ RepL g F2 acc xs ∧ Same F1 F2 ∧
      postN g W ρ G F2 σ Q ((lcL b tf f vs (ds.drop i) acc E2).bind fun xs E2 => .val (.lst xs) (restoreE E1 E2 vs)), ⟨_, Nat.zero_le _, rfl, F1, wipeE E1 vs, [], [], (st1.temp hD _).wiped vs, rfl, Same.refl _, postN.mono s1 (by simpa using q)⟩, ?_⟩
    rintro i m H2 ⟨hi, rfl, F2, E2, acc, xs, st2, ra, s2, q2⟩
    by_cases hlt : i < ds.length
    · refine .inr ⟨w.goes i H2 F2 s2 st2.sf hlt, fun H' => i + 1 ≤ ds.length ∧ ∃ F2 E2 acc xs, StOk g ρ (upd G D (.lst xs)) E2 F2 (wipe σ vs) H' ∧ RepL g F2 acc xs ∧ Same F1 F2 ∧
        postN g W ρ G F2 σ Q ((lcL b tf f vs (ds.drop (i + 1)) acc E2).bind fun xs E2 => .val (.lst xs) (restoreE E1 E2 vs)), fun H' ⟨a, r⟩ => ⟨ds.length - (i + 1), by omega, a, rfl, r⟩, fun x H3 y => ?_⟩
      obtain ⟨d, F3, hd, gr, r⟩ := w.yields i H2 F2 x H3 s2 st2.sf hlt y
      have hdrop : ds.drop i = d :: ds.drop (i + 1) := by
        rw [List.drop_eq_getElem_cons hlt]
        rw [List.getElem?_eq_getElem hlt] at hd
        rw [Option.some.inj hd]
      rw [hdrop] at q2
      unfold lcL at q2
      cases z : b d E2 with
      | none => simp only [z] at q2; exact q2.elim
      | some E3 =>
        simp only [z] at q2
        refine ⟨ρ, _, E2, F3, d, gr.2 _ _ _ _ st2, r, E3, z, fun σ4 F4 H4 st4 s4 w4 => ⟨w4.trans wipe_wipe, ?_⟩⟩
        rw [wipe_wipe] at w4
        have s14 : Same F2 F4 := gr.1.trans s4
        refine noxE (P := fun r : R (List FL.D) => postN g W ρ G F2 σ Q (r.bind fun xs E2 => .val (.lst xs) (restoreE E1 E2 vs))) q2 (fun h => h) st4 fun k E5 c F5 H5 st5 s5 r5 q5 => ?_
        obtain rfl : k = c := r5
        cases k with
        | false =>
          rw [if_neg Bool.false_ne_true] at q5 ⊢
          exact ⟨hlt, F5, _, acc, xs, st5.wiped2 vs w4, ra.mono (s14.trans s5), (s2.trans s14).trans s5, postN.mono (s14.trans s5) q5⟩
        | true =>
          rw [if_pos rfl] at q5 ⊢
          refine noxE (P := fun r : R (List FL.D) => postN g W ρ G F2 σ Q (r.bind fun xs E2 => .val (.lst xs) (restoreE E1 E2 vs))) q5 (fun h => h) st5 fun y E6 v F6 H6 st6 s6 r6 q6 => ?_
          by_cases hz : acc.length < sizeLine
          · rw [if_pos hz] at q6
            have s16 := (s14.trans s5).trans s6
            have hD6 : H6 D = some (.lst xs) := st6.sg _ _ upd_same
            refine ⟨xs, hD6, by rw [← ra.length]; exact hz, hlt, F6, _, acc ++ [y], xs ++ [v], (st6.rewrite gD).wiped2 vs w4, (ra.mono s16).append ⟨v, [], rfl, r6, rfl⟩, s2.trans s16, postN.mono s16 q6⟩
          · rw [if_neg hz] at q6
            exact q6.elim
    · have e : i = ds.length := by omega
      subst e
      rw [List.drop_length] at q2
      have q2 : postN g W ρ G F2 σ Q (.val (.lst acc) (restoreE E1 E2 vs)) := q2
      refine .inl ⟨w.stops H2 F2 s2 st2.sf, ?_⟩
      exact q2 D (.lst xs) F2 H2 (st2.restored st1 s2) gD ⟨xs, rfl, ra⟩ (Same.refl _)
theorem fn_lc {fi : Nv → R (List D)} {b : Bd} {tf : Nv → R Bool} {f : Nv → R D} {vs : List Nat} (h : PE X e (tLc (tI g W fi) (tGv g vs b) (tG g W0 relB tf) (tG g W0 (relD g) f) vs)) : FN X g W e (fLc fi b tf f vs) := peImp h fun _ _ _ q => le_lc q
/-- x = [..] -/
theorem fs_setLc {i : Nat} {fi : Nv → R (List D)} {b : Bd} {tf : Nv → R Bool} {f : Nv → R D} {vs : List Nat} (h : PS X st (tAsg (tLc (tI g W fi) (tGv g vs b) (tG g W0 relB tf) (tG g W0 (relD g) f) vs) (gName i))) : FS X g W st (fSetN i (fLc fi b tf f vs)) :=
  fs_setN (psImp h fun D σ H q => le_lc q)
end
end FL

namespace FL
open PySem PySem.Spec PyProof.Rows L2

/-! ## defs -/
inductive FR where
  | val (d : D) (bs : List Sl) | new (d : D) (bs : List Sl) | exc (c : Nat) (fs : Option (Str × D)) (bs : List Sl) | bad
abbrev Fn := List Sl → FR
def spF (g : Gm) (n : Nat) (fn : Fn) : Sp := fun vs H Q X => vs.length = n ∧ ∃ ρ G as F, StOk g ρ G as F (vs.map some) H ∧ match fn as with
  | .val d bs => ∀ v F' H', StOk g ρ G bs F' (vs.map some) H' → Same F F' → Rep g F' d v → Q v H'
  | .new d bs => ∀ p o F' H', StOk g ρ (upd G p o) bs F' (vs.map some) H' → G p = none → OwnO g F' d o → Same F F' → Q (.ref p) H'
  | .exc c fs bs => ∀ dx F' H', StOk g ρ G bs F' (vs.map some) H' → Same F F' → XRep g F' fs dx → X (.ref (g.xcl c)) dx H'
  | .bad => False
/-- what comes back of the arguments: the lent ones -/
def backs : List Sl → Nv → Option (List Sl)
  | [], _ => some []
  | .bor k _ :: as, .bor k' d' :: E => if k = k' then (match backs as E with
    | some b => some (.bor k d' :: b)
    | none => none) else none
  | .bor _ _ :: _, _ => none
  | _ :: as, _ :: E => match backs as E with
    | some b => some (.no :: b)
    | none => none
  | _ :: _, [] => none
def runF (N : Nat) (s : Nv → R Fl) : Fn := fun as => match s (as ++ List.replicate (N - as.length) .no) with
  | .val .nx E => match backs as E with
    | some b => .val .non b
    | none => .bad
  | .val (.rt d) E => match backs as E with
    | some b => .val d b
    | none => .bad
  | .val (.rn d) E => match backs as E with
    | some b => .new d b
    | none => .bad
  | .exc c fs E => match backs as E with
    | some b => .exc c fs b
    | none => .bad
  | _ => .bad
theorem backs_get : ∀ {as : List Sl} {E : Nv} {b : List Sl}, backs as E = some b → b.length = as.length ∧ ∀ (i : Nat) s, b[i]? = some s → s = .no ∨ ∃ k d d0, s = .bor k d ∧ E[i]? = some (.bor k d) ∧ as[i]? = some (.bor k d0)
  | [], E, b, h => by cases h; exact ⟨rfl, fun i s e => by simp at e⟩
  | a :: as, [], b, h => by
    cases a <;> simp [backs] at h
  | a :: as, e :: E, b, h => by
    have rest : ∀ {b'}, backs as E = some b' → ∀ x, (x = .no ∨ ∃ k d d0, x = .bor k d ∧ e = .bor k d ∧ a = .bor k d0) → b = x :: b' → b.length = (a :: as).length ∧ ∀ (i : Nat) s, b[i]? = some s → s = .no ∨ ∃ k d d0, s = .bor k d ∧ (e :: E)[i]? = some (.bor k d) ∧ (a :: as)[i]? = some (.bor k d0) := by
      intro b' hb x hx e1
      obtain ⟨l, g⟩ := backs_get hb
      subst e1
      refine ⟨by simp [l], fun i s es => ?_⟩
      cases i with
      | zero =>
        simp at es
        subst es
        rcases hx with z | ⟨k, d, d0, z1, z2, z3⟩
        · exact .inl z
        · exact .inr ⟨k, d, d0, z1, by simp [z2], by simp [z3]⟩
      | succ i =>
        rcases g i s (by simpa using es) with z | ⟨k, d, d0, z1, z2, z3⟩
        · exact .inl z
        · exact .inr ⟨k, d, d0, z1, by simpa using z2, by simpa using z3⟩
    have plain : (match backs as E with | some b => some (Sl.no :: b) | none => none) = some b → b.length = (a :: as).length ∧ ∀ (i : Nat) s, b[i]? = some s → s = .no ∨ ∃ k d d0, s = .bor k d ∧ (e :: E)[i]? = some (.bor k d) ∧ (a :: as)[i]? = some (.bor k d0) := by
      intro h
      cases q : backs as E with
      | none => simp [q] at h
      | some b' =>
        simp only [q, Option.some.injEq] at h
        exact rest q .no (.inl rfl) h.symm
    cases a with
    | bor k d0 =>
      cases e with
      | bor k' d =>
        unfold backs at h
        by_cases hk : k = k'
        · subst hk
          rw [if_pos rfl] at h
          cases q : backs as E with
          | none => simp [q] at h
          | some b' =>
            simp only [q, Option.some.injEq] at h
            exact rest q (.bor k d) (.inr ⟨k, d, d0, rfl, rfl, rfl⟩) h.symm
        · rw [if_neg hk] at h; cases h
      | _ => cases h
    | no => exact plain h
    | fz _ => exact plain h
    | own _ => exact plain h
section
variable {g : Gm} {ρ : Nat → Addr} {G F H G' F' H' : Hp} {E E' : Nv} {σ σ' : L2.St} {as bs : List Sl} {p : Addr} {o : HO}
theorem StOk.backs (st0 : StOk g ρ G as F σ H) (st' : StOk g ρ G' E' F' σ' H') (hb : FL.backs as E' = some bs) : StOk g ρ G' bs F' σ H' := by
  obtain ⟨hl, hg⟩ := backs_get hb
  obtain ⟨ps0, a1, a2, a3⟩ := st0.ow
  obtain ⟨ps, h1, h2, h3⟩ := st'.ow
  have look : ∀ {i : Nat} {s : Sl} {d : D}, bs[i]? = some s → s.cell = some d → ∃ k d0, s = .bor k d ∧ E'[i]? = some (.bor k d) ∧ as[i]? = some (.bor k d0) := fun {i s d} e c => by
    rcases hg i s e with z | ⟨k, d', d0, z1, z2, z3⟩
    · rw [z] at c; cases c
    · rw [z1] at c; cases c; exact ⟨k, d0, z1, z2, z3⟩
  refine ⟨st'.sf, st'.sg, st'.dj, by rw [hl]; exact st0.len, fun i d e => ?_, ps, fun i s d e c => ?_, fun i k d e => ?_, fun i j s t d e e1 c1 e2 c2 q => ?_⟩
  · rcases hg i _ e with z | ⟨k, d', d0, z1, _⟩
    · cases z
    · cases z1
  · obtain ⟨k, d0, rfl, z2, z3⟩ := look e c
    have w := h1 i _ d z2 rfl
    refine ⟨?_, w.2⟩
    rw [(a1 i _ d0 z3 rfl).1, a2 i k d0 z3, h2 i k d z2]
  · obtain ⟨k', d0, z1, z2, z3⟩ := look (d := d) e rfl
    cases z1
    exact h2 i k d z2
  · obtain ⟨k, d0, rfl, z2, _⟩ := look e1 c1
    obtain ⟨k', d1, rfl, z3, _⟩ := look e2 c2
    exact h3 i j _ _ _ _ z2 rfl z3 rfl q
theorem StOk.extend (st : StOk g ρ G as F σ H) (n : Nat) : StOk g ρ G (as ++ List.replicate n .no) F (σ ++ List.replicate n none) H := st.reslot (by simp [st.len]) fun i s h => by
  by_cases hi : i < as.length
  · rw [List.getElem?_append_left hi] at h
    exact .inl ⟨h, List.getElem?_append_left (by rw [← st.len]; exact hi)⟩
  · rw [List.getElem?_append_right (by omega)] at h
    exact .inr (.inl (List.eq_of_mem_replicate (List.mem_of_getElem? h)))
end
section
variable {P : Program} {w : World} {K : PySem.W.Frag} {mg : Str → Option Value} {base : Heap} {g : Gm}
/-- THE RULE for a def -/
theorem fn_ok {x qual : Str} {st : Stmt} {f : Addr} {fd : FuncData} {N ps : List Str} {k : Nat} (F : Fun K x qual st f fd) (S : FnScope N ps (defScope st)) (s : Nv → R Fl) (n : Nat) (hn : n = ps.length) (M : Nat) (hM : M = N.length)
    (hbody : ∀ (cdv : Value) (A : Around) (outer : List Env) (sh : Shared) (H : Hp) (E : XK), Room k (A.deeper (envOfC qual (defScope st) sh.heap.objs.size f cdv)) →
      FSs (cxOf (L2.CX P w) P w K mg base N qual (defScope st) f cdv A outer sh H E) g (fun cls d _ H => E cls d H) (defBody st) s) : FnOk P w K mg base (L2.CX P w) (k + 1) f fd ps (spF g n (runF M s)) := by
  subst hn hM
  refine F.okX S (fun vs H Q E h => h.1) (fun cdv A outer sh H vs Q E hr h => ⟨_, hbody cdv A outer sh H E hr, ?_⟩)
  obtain ⟨hl, ρ, G, as, Fz, st, q⟩ := h
  have st1 := st.extend (N.length - as.length)
  have la : as.length = vs.length := by rw [st.len]; simp
  refine ⟨ρ, G, as ++ List.replicate (N.length - as.length) .no, Fz, by unfold L2.start; rw [← la]; exact st1, ?_⟩
  unfold runF at q
  revert q
  cases s (as ++ List.replicate (N.length - as.length) .no) with
  | bad => exact fun q => q
  | exc c fs E' =>
    cases z : backs as E' with
    | none => simp only [z]; exact fun q => q.elim
    | some b => simp only [z]; exact fun q dx σ' F' H' st' ss xr => q dx F' H' (st.backs st' z) ss xr
  | val fl E' =>
    cases fl with
    | bk => exact fun q => q.elim
    | ct => exact fun q => q.elim
    | nx =>
      cases z : backs as E' with
      | none => simp only [z]; exact fun q => q.elim
      | some b => simp only [z]; exact fun q σ' F' H' st' ss => q .non F' H' (st.backs st' z) ss rfl
    | rt d =>
      cases z : backs as E' with
      | none => simp only [z]; exact fun q => q.elim
      | some b => simp only [z]; exact fun q v σ' F' H' st' ss r => q v F' H' (st.backs st' z) ss r
    | rn d =>
      cases z : backs as E' with
      | none => simp only [z]; exact fun q => q.elim
      | some b => simp only [z]; exact fun q p o σ' F' H' st' gn ow ss => q p o F' H' (st.backs st' z) gn ow ss
end

/-! ## calls -/
def lend (E : Nv) : Nat → List Ar → Option (List Sl)
  | _, [] => some []
  | m, .v d :: r => match lend E (m + 1) r with
    | some as => some (.fz d :: as)
    | none => none
  | m, .pk j :: r => match E[j]?, lend E (m + 1) r with
    | some (.fz d), some as => some (.fz d :: as)
    | some (.own d), some as => some (.bor m d :: as)
    | some (.bor _ d), some as => some (.bor m d :: as)
    | _, _ => none
def unlend : List Ar → List Sl → Nv → Nv
  | .pk j :: r, .bor _ d :: bs, E => unlend r bs (match E[j]? with
    | some s => E.set j (s.put d)
    | none => E)
  | _ :: r, _ :: bs, E => unlend r bs E
  | _, _, E => E
/-- no slot is lent twice -/
def once : List Ar → Bool
  | [] => true
  | .pk j :: r => !(r.any fun a => match a with
    | .pk i => i == j
    | _ => false) && once r
  | _ :: r => once r
/-- all that was lent comes back -/
def shape : List Sl → List Sl → Bool
  | [], [] => true
  | .bor _ _ :: a, .bor _ _ :: b => shape a b
  | .bor _ _ :: _, _ => false
  | _ :: a, _ :: b => shape a b
  | _, _ => false
theorem lend_get {E : Nv} : ∀ {ars : List Ar} {m : Nat} {as : List Sl}, lend E m ars = some as → as.length = ars.length ∧ ∀ (i : Nat) a, ars[i]? = some a → match a with
    | .v d => as[i]? = some (.fz d)
    | .pk j => (∃ d, E[j]? = some (.fz d) ∧ as[i]? = some (.fz d)) ∨ ∃ s d, E[j]? = some s ∧ s.cell = some d ∧ as[i]? = some (.bor (m + i) d)
  | [], m, as, h => by cases h; exact ⟨rfl, fun i a e => by simp at e⟩
  | a :: r, m, as, h => by
    have rest : ∀ {as'} {x : Sl}, lend E (m + 1) r = some as' → as = x :: as' → (match a with
        | .v d => x = .fz d
        | .pk j => (∃ d, E[j]? = some (.fz d) ∧ x = .fz d) ∨ ∃ s d, E[j]? = some s ∧ s.cell = some d ∧ x = .bor m d) → as.length = (a :: r).length ∧ ∀ (i : Nat) b, (a :: r)[i]? = some b → match b with
        | .v d => as[i]? = some (.fz d)
        | .pk j => (∃ d, E[j]? = some (.fz d) ∧ as[i]? = some (.fz d)) ∨ ∃ s d, E[j]? = some s ∧ s.cell = some d ∧ as[i]? = some (.bor (m + i) d) := by
      intro as' x hr e hx
      obtain ⟨l, g⟩ := lend_get hr
      subst e
      refine ⟨by simp [l], fun i b hb => ?_⟩
      cases i with
      | zero =>
        simp at hb
        subst hb
        cases a with
        | v d => simp only at hx ⊢; simp [hx]
        | pk j =>
          simp only at hx ⊢
          rcases hx with ⟨d, z1, z2⟩ | ⟨s, d, z1, z2, z3⟩
          · exact .inl ⟨d, z1, by simp [z2]⟩
          · exact .inr ⟨s, d, z1, z2, by simp [z3]⟩
      | succ i =>
        have := g i b (by simpa using hb)
        cases b with
        | v d => simpa using this
        | pk j =>
          simp only at this ⊢
          rcases this with ⟨d, z1, z2⟩ | ⟨s, d, z1, z2, z3⟩
          · exact .inl ⟨d, z1, by simpa using z2⟩
          · exact .inr ⟨s, d, z1, z2, by rw [show m + (i + 1) = m + 1 + i by omega]; simpa using z3⟩
    cases a with
    | v d =>
      unfold lend at h
      cases q : lend E (m + 1) r with
      | none => simp [q] at h
      | some as' =>
        simp only [q, Option.some.injEq] at h
        exact rest q h.symm rfl
    | pk j =>
      unfold lend at h
      cases q : lend E (m + 1) r with
      | none =>
        cases z : E[j]? with
        | none => simp [q, z] at h
        | some s => cases s <;> simp [q, z] at h
      | some as' =>
        cases z : E[j]? with
        | none => simp [q, z] at h
        | some s =>
          cases s with
          | no => simp [q, z] at h
          | fz d => simp only [q, z, Option.some.injEq] at h; exact rest q h.symm (.inl ⟨d, z, rfl⟩)
          | own d => simp only [q, z, Option.some.injEq] at h; exact rest q h.symm (.inr ⟨_, d, z, rfl, rfl⟩)
          | bor k d => simp only [q, z, Option.some.injEq] at h; exact rest q h.symm (.inr ⟨_, d, z, rfl, rfl⟩)
theorem put_put {s : Sl} {d e : D} : (s.put d).put e = s.put e := by cases s <;> rfl
theorem put_cell {s : Sl} {d e : D} (h : s.cell = some e) : (s.put d).cell = some d := by cases s <;> first | rfl | cases h
theorem put_cell' {s : Sl} {d e : D} (h : (s.put d).cell = some e) : e = d ∧ ∃ x, s.cell = some x := by
  cases s with
  | no => cases h
  | fz _ => cases h
  | own x => cases h; exact ⟨rfl, x, rfl⟩
  | bor k x => cases h; exact ⟨rfl, x, rfl⟩
theorem put_fz {s : Sl} {d e : D} (h : s.put d = .fz e) : s = .fz e := by cases s <;> first | exact h | cases h
theorem put_bor {s : Sl} {d e : D} {k : Nat} (h : s.put d = .bor k e) : e = d ∧ ∃ x, s = .bor k x := by
  cases s with
  | bor k' x => cases h; exact ⟨rfl, x, rfl⟩
  | _ => cases h
theorem unlend_get : ∀ {ars : List Ar} {bs : List Sl} {E : Nv} {j : Nat} {s : Sl}, (unlend ars bs E)[j]? = some s →
    ∃ s0, E[j]? = some s0 ∧ ((s = s0 ∧ ∀ (m k : Nat) d, ars[m]? = some (.pk j) → bs[m]? ≠ some (.bor k d)) ∨ ∃ (m k : Nat) (d : D), ars[m]? = some (.pk j) ∧ bs[m]? = some (.bor k d) ∧ s = s0.put d)
  | [], bs, E, j, s, h => ⟨s, by simpa [unlend] using h, .inl ⟨rfl, fun m k d e => by simp at e⟩⟩
  | a :: r, [], E, j, s, h => ⟨s, by cases a <;> simpa [unlend] using h, .inl ⟨rfl, fun m k d e => by simp⟩⟩
  | a :: r, b :: bs, E, j, s, h => by
    have skip : (∀ i k d, a = .pk i → b ≠ .bor k d) → (unlend r bs E)[j]? = some s → ∃ s0, E[j]? = some s0 ∧ ((s = s0 ∧ ∀ (m k : Nat) d, (a :: r)[m]? = some (.pk j) → (b :: bs)[m]? ≠ some (.bor k d)) ∨ ∃ (m k : Nat) (d : D), (a :: r)[m]? = some (.pk j) ∧ (b :: bs)[m]? = some (.bor k d) ∧ s = s0.put d) := by
      intro hab h
      obtain ⟨s0, e0, c⟩ := unlend_get h
      refine ⟨s0, e0, ?_⟩
      rcases c with ⟨e1, n⟩ | ⟨m, k, d, e1, e2, e3⟩
      · refine .inl ⟨e1, fun m k d e => ?_⟩
        cases m with
        | zero =>
          simp at e
          intro e'
          simp at e'
          exact hab j k d e e'
        | succ m => simpa using n m k d (by simpa using e)
      · exact .inr ⟨m + 1, k, d, by simpa using e1, by simpa using e2, e3⟩
    cases a with
    | v d0 => exact skip (fun _ _ _ e => nomatch e) (by cases b <;> simpa [unlend] using h)
    | pk i =>
      cases b with
      | bor k0 d0 =>
        unfold unlend at h
        obtain ⟨s0, e0, c⟩ := unlend_get h
        by_cases hij : i = j
        · subst hij
          cases z : E[i]? with
          | none => rw [z] at e0; simp only at e0; rw [z] at e0; cases e0
          | some t =>
            rw [z] at e0
            simp only at e0
            rw [List.getElem?_set_self (List.getElem?_eq_some_iff.mp z).1] at e0
            cases e0
            refine ⟨t, rfl, .inr ?_⟩
            rcases c with ⟨e1, n⟩ | ⟨m, k, d, e1, e2, e3⟩
            · exact ⟨0, k0, d0, rfl, rfl, e1⟩
            · exact ⟨m + 1, k, d, by simpa using e1, by simpa using e2, by rw [e3, put_put]⟩
        · have e0' : E[j]? = some s0 := by
            cases z : E[i]? with
            | none => rw [z] at e0; exact e0
            | some t => rw [z] at e0; simp only at e0; rw [List.getElem?_set_ne hij] at e0; exact e0
          refine ⟨s0, e0', ?_⟩
          rcases c with ⟨e1, n⟩ | ⟨m, k, d, e1, e2, e3⟩
          · refine .inl ⟨e1, fun m k d e => ?_⟩
            cases m with
            | zero => simp at e; exact absurd e hij
            | succ m => simpa using n m k d (by simpa using e)
          · exact .inr ⟨m + 1, k, d, by simpa using e1, by simpa using e2, e3⟩
      | no => exact skip (fun _ _ _ _ e => nomatch e) (by simpa [unlend] using h)
      | fz _ => exact skip (fun _ _ _ _ e => nomatch e) (by simpa [unlend] using h)
      | own _ => exact skip (fun _ _ _ _ e => nomatch e) (by simpa [unlend] using h)
theorem unlend_length : ∀ (ars : List Ar) (bs : List Sl) (E : Nv), (unlend ars bs E).length = E.length
  | [], _, _ => rfl
  | a :: r, [], E => by cases a <;> simp [unlend]
  | a :: r, b :: bs, E => by
    cases a with
    | v d => cases b <;> simpa [unlend] using unlend_length r bs E
    | pk i =>
      cases b with
      | bor k d =>
        unfold unlend
        rw [unlend_length]
        cases E[i]? <;> simp
      | _ => simpa [unlend] using unlend_length r bs E
theorem once_inj : ∀ {ars : List Ar}, once ars = true → ∀ (i i' j : Nat), ars[i]? = some (.pk j) → ars[i']? = some (.pk j) → i = i'
  | [], _, i, i', j, h, _ => by simp at h
  | a :: r, h, i, i', j, h1, h2 => by
    have hr : once r = true := by
      cases a with
      | v d => exact h
      | pk k => unfold once at h; rw [Bool.and_eq_true] at h; exact h.2
    have no : ∀ k m : Nat, a = .pk k → r[m]? ≠ some (.pk k) := by
      intro k m e e2
      subst e
      unfold once at h
      rw [Bool.and_eq_true, Bool.not_eq_true'] at h
      have := List.any_eq_false.mp h.1 _ (List.mem_of_getElem? e2)
      simp at this
    cases i with
    | zero =>
      cases i' with
      | zero => rfl
      | succ m => simp at h1 h2; exact absurd h2 (no j m h1)
    | succ n =>
      cases i' with
      | zero => simp at h1 h2; exact absurd h1 (no j n h2)
      | succ m => simp at h1 h2; rw [once_inj hr n m j h1 h2]
theorem shape_get : ∀ {as bs : List Sl}, shape as bs = true → ∀ (m k : Nat) d, as[m]? = some (.bor k d) → ∃ k' d', bs[m]? = some (.bor k' d')
  | [], _, _, m, k, d, h => by simp at h
  | a :: as, [], h, _, _, _, _ => by cases a <;> simp [shape] at h
  | a :: as, b :: bs, h, m, k, d, e => by
    have hr : shape as bs = true ∧ (∀ k d, a = .bor k d → ∃ k' d', b = .bor k' d') := by
      cases a with
      | bor k0 d0 =>
        cases b with
        | bor k1 d1 => exact ⟨h, fun _ _ _ => ⟨k1, d1, rfl⟩⟩
        | _ => cases h
      | _ => exact ⟨h, fun _ _ e => nomatch e⟩
    cases m with
    | zero =>
      simp at e
      obtain ⟨k', d', z⟩ := hr.2 k d e
      exact ⟨k', d', by simp [z]⟩
    | succ m =>
      obtain ⟨k', d', z⟩ := shape_get hr.1 m k d (by simpa using e)
      exact ⟨k', d', by simpa using z⟩
theorem ArsOk.get {g : Gm} {F : Hp} {σ : L2.St} : ∀ {ars : List Ar} {vs : List V} {i : Nat} {a : Ar}, ArsOk g F σ ars vs → ars[i]? = some a → ∃ v, vs[i]? = some v ∧ ArOk g F σ a v
  | [], _, _, _, _, h => by simp at h
  | b :: r, _, 0, a, ⟨x, xs, e, q, t⟩, h => by subst e; simp at h; subst h; exact ⟨x, rfl, q⟩
  | b :: r, _, i + 1, a, ⟨x, xs, e, q, t⟩, h => by
    subst e
    obtain ⟨v, z1, z2⟩ := ArsOk.get (i := i) t (by simpa using h)
    exact ⟨v, by simpa using z1, z2⟩
section
variable {g : Gm} {ρ : Nat → Addr} {G F H : Hp} {E : Nv} {σ : L2.St} {ars : List Ar} {as : List Sl} {vs : List V}
/-- the callee's view, and the way back -/
theorem lent (st : StOk g ρ G E F σ H) (ra : ArsOk g F σ ars vs) (hl : lend E 0 ars = some as) (ho : once ars = true) :
    ∃ (ρ' : Nat → Addr) (G' : Hp), StOk g ρ' G' as F (vs.map some) H ∧
      (∀ bs F' H', shape as bs = true → StOk g ρ' G' bs F' (vs.map some) H' → Same F F' → StOk g ρ G (unlend ars bs E) F' σ H') ∧
      (∀ bs F' H' p o, shape as bs = true → StOk g ρ' (upd G' p o) bs F' (vs.map some) H' → G' p = none → Same F F' → G p = none ∧ StOk g ρ (upd G p o) (unlend ars bs E) F' σ H') := by
  obtain ⟨ps, h1, h2, h3⟩ := st.ow
  obtain ⟨ll, lg⟩ := lend_get hl
  have lv : as.length = vs.length := by rw [ll, ra.length]
  haveI : ∀ q, Decidable (∃ (j : Nat) (s : Sl) (d : D), E[j]? = some s ∧ s.cell = some d ∧ ps j = q ∧ ∀ i : Nat, ars[i]? ≠ some (.pk j)) := fun q => Classical.propDecidable _
  let G' : Hp := fun q => if (∃ (j : Nat) (s : Sl) (d : D), E[j]? = some s ∧ s.cell = some d ∧ ps j = q ∧ ∀ i : Nat, ars[i]? ≠ some (.pk j)) then H q else G q
  have g'own : ∀ {j : Nat} {s : Sl} {d : D}, E[j]? = some s → s.cell = some d → (∀ i : Nat, ars[i]? ≠ some (.pk j)) → G' (ps j) = H (ps j) := fun {j s d} e c n => if_pos ⟨j, s, d, e, c, rfl, n⟩
  have g'lent : ∀ {j : Nat} {s : Sl} {d : D} {i : Nat}, E[j]? = some s → s.cell = some d → ars[i]? = some (.pk j) → G' (ps j) = none := fun {j s d i} e c hi => by
    have : G' (ps j) = G (ps j) := if_neg (fun ⟨j', s', d', e', c', q', n'⟩ => by
      have := h3 j' j s' s d' d e' c' e c q'
      subst this
      exact n' i hi)
    rw [this]
    exact (h1 j s d e c).2.2.1
  have g'G : ∀ {q : Addr} {o : HO}, G q = some o → G' q = some o := fun {q o} e => by
    have : G' q = G q := if_neg (fun ⟨j', s', d', e', c', q', n'⟩ => by
      have := (h1 j' s' d' e' c').2.2.1
      rw [q', e] at this
      cases this)
    rw [this]; exact e
  have g'cases : ∀ {q : Addr} {o : HO}, G' q = some o → H q = some o ∧ F q = none := fun {q o} e => by
    by_cases hq : ∃ (j : Nat) (s : Sl) (d : D), E[j]? = some s ∧ s.cell = some d ∧ ps j = q ∧ ∀ i : Nat, ars[i]? ≠ some (.pk j)
    · have e' : H q = some o := (if_pos hq).symm.trans e
      obtain ⟨j, s, d, e1, c1, q1, _⟩ := hq
      exact ⟨e', by rw [← q1]; exact (h1 j s d e1 c1).2.1⟩
    · have e' : G q = some o := (if_neg hq).symm.trans e
      exact ⟨st.sg _ _ e', st.dj _ _ e'⟩
  have vget : ∀ {i j : Nat} {s : Sl} {d : D}, ars[i]? = some (.pk j) → E[j]? = some s → s.cell = some d → (vs.map some)[i]? = some (some (.ref (ps j))) := fun {i j s d} ha e c => by
    obtain ⟨v, z1, z2⟩ := ra.get ha
    have z2 : σ[j]? = some (some v) := z2
    rw [(h1 j s d e c).1] at z2
    have : V.ref (ps j) = v := Option.some.inj (Option.some.inj z2)
    rw [List.getElem?_map, z1, ← this]
    rfl
  -- the callee's slots
  have argof : ∀ {i : Nat} {s : Sl}, as[i]? = some s → ∃ a, ars[i]? = some a := fun {i s} e => by
    have hi : i < ars.length := by rw [← ll]; exact (List.getElem?_eq_some_iff.mp e).1
    exact ⟨_, List.getElem?_eq_getElem hi⟩
  have look : ∀ {i : Nat} {s : Sl} {d : D}, as[i]? = some s → s.cell = some d → ∃ j t, ars[i]? = some (.pk j) ∧ E[j]? = some t ∧ t.cell = some d ∧ s = .bor i d := fun {i s d} e c => by
    obtain ⟨a, ha⟩ := argof e
    have z := lg i a ha
    cases a with
    | v x => simp only at z; rw [e] at z; cases z; cases c
    | pk j =>
      simp only at z
      rcases z with ⟨x, _, z⟩ | ⟨t, x, z1, z2, z3⟩
      · rw [e] at z; cases z; cases c
      · rw [e] at z3
        have := Option.some.inj z3
        subst this
        cases c
        exact ⟨j, t, ha, z1, z2, by rw [Nat.zero_add]⟩
  let jx : Nat → Nat := fun i => match ars[i]? with
    | some (.pk j) => j
    | _ => 0
  have jxe : ∀ {i j : Nat}, ars[i]? = some (.pk j) → jx i = j := fun {i j} e => by
    show (match ars[i]? with | some (.pk j) => j | _ => 0) = j
    rw [e]
  have callee : StOk g (fun i => ps (jx i)) G' as F (vs.map some) H := by
    refine ⟨st.sf, fun q o e => (g'cases e).1, fun q o e => (g'cases e).2, by simpa using lv, fun i d e => ?_, fun i => ps (jx i), fun i s d e c => ?_, fun i k d e => ?_, fun i i' s t d e e1 c1 e2 c2 q => ?_⟩
    · obtain ⟨a, ha⟩ := argof e
      obtain ⟨v, z1, z2⟩ := ra.get ha
      have z := lg i a ha
      cases a with
      | v x =>
        simp only at z
        rw [e] at z; cases z
        exact ⟨v, by rw [List.getElem?_map, z1]; rfl, z2⟩
      | pk j =>
        simp only at z
        rcases z with ⟨x, z3, z4⟩ | ⟨t, x, _, _, z4⟩
        · rw [e] at z4; cases z4
          have z2 : σ[j]? = some (some v) := z2
          obtain ⟨u, y1, y2⟩ := st.fz j d z3
          rw [z2] at y1; cases y1
          exact ⟨v, by rw [List.getElem?_map, z1]; rfl, y2⟩
        · rw [e] at z4; cases z4
    · obtain ⟨j, t, ha, e1, c1, rfl⟩ := look e c
      obtain ⟨w1, w2, w3, w4⟩ := h1 j t d e1 c1
      show (List.map some vs)[i]? = some (some (V.ref (ps (jx i)))) ∧ OwnAt g G' F H (ps (jx i)) d
      rw [jxe ha]
      exact ⟨vget ha e1 c1, w2, g'lent e1 c1 ha, w4⟩
    · obtain ⟨j, t, ha, e1, c1, z⟩ := look (d := d) e rfl
      cases z
      rfl
    · obtain ⟨j, u, ha, y1, y2, _⟩ := look e1 c1
      obtain ⟨j', u', ha', y1', y2', _⟩ := look e2 c2
      simp only [jxe ha, jxe ha'] at q
      have := h3 j j' u u' _ _ y1 y2 y1' y2' q
      subst this
      exact once_inj ho i i' j ha ha'
  -- an owned slot's object behind the call
  have after : ∀ (Gc : Hp) (bs : List Sl) (F' H' : Hp), (∀ q o, G' q = some o → Gc q = some o) → shape as bs = true → StOk g (fun i => ps (jx i)) Gc bs F' (vs.map some) H' → Same F F' → ∀ (j : Nat) s d, (unlend ars bs E)[j]? = some s → s.cell = some d →
      (∃ s0 d0, E[j]? = some s0 ∧ s0.cell = some d0 ∧ (∀ k, s = .bor k d → ∃ x, s0 = .bor k x)) ∧ F' (ps j) = none ∧ (∃ o, H' (ps j) = some o ∧ OwnO g F' d o) ∧ ((∃ o, G' (ps j) = some o) ∨ Gc (ps j) = none) := by
    intro Gc bs F' H' hG sh st' ss j s d e c
    obtain ⟨s0, e0, k⟩ := unlend_get e
    rcases k with ⟨rfl, n⟩ | ⟨m, k, x, y1, y2, rfl⟩
    · have notlent : ∀ i : Nat, ars[i]? ≠ some (.pk j) := fun i hi => by
        have z := lg i _ hi
        simp only at z
        rcases z with ⟨x, z1, _⟩ | ⟨t, x, z1, z2, z3⟩
        · rw [e0] at z1; cases z1; cases c
        · obtain ⟨k', d', z4⟩ := shape_get sh i _ _ z3
          exact n i k' d' hi z4
      obtain ⟨w1, w2, w3, o, w4, w5⟩ := h1 j s d e0 c
      have gj := g'own e0 c notlent
      rw [w4] at gj
      exact ⟨⟨s, d, e0, c, fun k z => ⟨d, z⟩⟩, st'.dj _ _ (hG _ _ gj), ⟨o, st'.sg _ _ (hG _ _ gj), w5.mono ss⟩, .inl ⟨o, gj⟩⟩
    · obtain ⟨rfl, x0, c0⟩ := put_cell' c
      obtain ⟨p, z1, z2, z3, z4⟩ := st'.at y2 rfl
      rw [vget y1 e0 c0] at z1
      have : ps j = p := by injection (Option.some.inj (Option.some.inj z1))
      subst this
      exact ⟨⟨s0, x0, e0, c0, fun k' z => (put_bor z).2⟩, z2, z4, .inr z3⟩
  have fzs : ∀ (bs : List Sl) (F' : Hp), Same F F' → ∀ (j : Nat) d, (unlend ars bs E)[j]? = some (.fz d) → ∃ v, σ[j]? = some (some v) ∧ Rep g F' d v := by
    intro bs F' ss j d e
    obtain ⟨s0, e0, k⟩ := unlend_get e
    have : s0 = .fz d := by
      rcases k with ⟨z, _⟩ | ⟨_, _, x, _, _, z⟩
      · exact z.symm
      · exact put_fz z.symm
    subst this
    obtain ⟨v, a, b⟩ := st.fz j d e0
    exact ⟨v, a, b.mono ss⟩
  refine ⟨fun i => ps (jx i), G', callee, fun bs F' H' sh st' ss => ?_, fun bs F' H' p o sh st' gp ss => ?_⟩
  · have af := after G' bs F' H' (fun _ _ z => z) sh st' ss
    refine ⟨st'.sf, fun q o e => st'.sg _ _ (g'G e), fun q o e => st'.dj _ _ (g'G e), by rw [unlend_length]; exact st.len, fzs bs F' ss, ps, fun j s d e c => ?_, fun j k d e => ?_, fun j j' s t d e e1 c1 e2 c2 q => ?_⟩
    · obtain ⟨⟨s0, d0, e0, c0, _⟩, f, own, _⟩ := af j s d e c
      exact ⟨(h1 j s0 d0 e0 c0).1, f, (h1 j s0 d0 e0 c0).2.2.1, own⟩
    · obtain ⟨⟨s0, d0, e0, c0, b⟩, _⟩ := af j _ d e rfl
      obtain ⟨x, rfl⟩ := b k rfl
      exact h2 j k x e0
    · obtain ⟨⟨s0, d0, e0, c0, _⟩, _⟩ := af j s d e1 c1
      obtain ⟨⟨t0, f0, e0', c0', _⟩, _⟩ := af j' t e e2 c2
      exact h3 j j' s0 t0 d0 f0 e0 c0 e0' c0' q
  · have gpn : G p = none := by
      cases z : G p with
      | none => rfl
      | some u => rw [g'G z] at gp; cases gp
    have hG : ∀ q o', G' q = some o' → (upd G' p o) q = some o' := fun q o' z => by rw [upd_ne (ne_of_none z gp)]; exact z
    have af := after (upd G' p o) bs F' H' hG sh st' ss
    have up : ∀ {q : Addr} {o' : HO}, (upd G p o) q = some o' → (upd G' p o) q = some o' := fun {q o'} e => by
      by_cases hq : q = p
      · subst hq; rw [upd_same] at e ⊢; exact e
      · rw [upd_ne hq] at e ⊢; exact g'G e
    refine ⟨gpn, st'.sf, fun q o e => st'.sg _ _ (up e), fun q o e => st'.dj _ _ (up e), by rw [unlend_length]; exact st.len, fzs bs F' ss, ps, fun j s d e c => ?_, fun j k d e => ?_, fun j j' s t d e e1 c1 e2 c2 q => ?_⟩
    · obtain ⟨⟨s0, d0, e0, c0, _⟩, f, own, alt⟩ := af j s d e c
      have ne : ps j ≠ p := by
        rcases alt with ⟨o', z⟩ | z
        · exact ne_of_none z gp
        · intro q; rw [q, upd_same] at z; cases z
      exact ⟨(h1 j s0 d0 e0 c0).1, f, by rw [upd_ne ne]; exact (h1 j s0 d0 e0 c0).2.2.1, own⟩
    · obtain ⟨⟨s0, d0, e0, c0, b⟩, _⟩ := af j _ d e rfl
      obtain ⟨x, rfl⟩ := b k rfl
      exact h2 j k x e0
    · obtain ⟨⟨s0, d0, e0, c0, _⟩, _⟩ := af j s d e1 c1
      obtain ⟨⟨t0, f0, e0', c0', _⟩, _⟩ := af j' t e e2 c2
      exact h3 j j' s0 t0 d0 f0 e0 c0 e0' c0' q
end
/-- a call's outcome -/
def resC (fn : Fn) (ars : List Ar) (E : Nv) : R D := match lend E 0 ars with
  | none => .bad
  | some as => if once ars = true then (match fn as with
    | .val d bs => if shape as bs = true then .val d (unlend ars bs E) else .bad
    | .exc c fs bs => if shape as bs = true then .exc c fs (unlend ars bs E) else .bad
    | _ => .bad) else .bad
def resCN (fn : Fn) (ars : List Ar) (E : Nv) : R D := match lend E 0 ars with
  | none => .bad
  | some as => if once ars = true then (match fn as with
    | .new d bs => if shape as bs = true then .val d (unlend ars bs E) else .bad
    | .exc c fs bs => if shape as bs = true then .exc c fs (unlend ars bs E) else .bad
    | _ => .bad) else .bad
def fCall (fn : Fn) (fs : Nv → R (List Ar)) : Nv → R D := fun E => (fs E).bind fun as E1 => resC fn as E1
def fCallN (fn : Fn) (fs : Nv → R (List Ar)) : Nv → R D := fun E => (fs E).bind fun as E1 => resCN fn as E1
section
variable {X : Cx} {g : Gm} {W : WX} {e : Expr} {n : Nat} {fn : Fn} {fs : Nv → R (List Ar)}
theorem resC_ok {ρ : Nat → Addr} {G F H : Hp} {E : Nv} {σ : L2.St} {ars : List Ar} {vs : List V} {Q : VK} (st : StOk g ρ G E F σ H) (ra : ArsOk g F σ ars vs) (hn : vs.length = n) (q : post g W (relD g) ρ G F σ Q (resC fn ars E)) : spF g n fn vs H Q (WE W σ) := by
  unfold resC at q
  cases z : lend E 0 ars with
  | none => simp only [z] at q; exact q.elim
  | some as =>
    simp only [z] at q
    by_cases ho : once ars = true
    · rw [if_pos ho] at q
      obtain ⟨ρ', G', st', back, _⟩ := lent st ra z ho
      refine ⟨hn, ρ', G', as, F, st', ?_⟩
      revert q
      cases fn as with
      | bad => exact fun q => q
      | new d bs => exact fun q => q.elim
      | val d bs =>
        simp only
        by_cases hs : shape as bs = true
        · rw [if_pos hs]; exact fun q v F' H' st2 ss r => q v F' H' (back bs F' H' hs st2 ss) ss r
        · rw [if_neg hs]; exact fun q => q.elim
      | exc c fs bs =>
        simp only
        by_cases hs : shape as bs = true
        · rw [if_pos hs]; exact fun q dx F' H' st2 ss r => q dx F' H' (back bs F' H' hs st2 ss) ss r
        · rw [if_neg hs]; exact fun q => q.elim
    · rw [if_neg ho] at q; exact q.elim
theorem resCN_ok {ρ : Nat → Addr} {G F H : Hp} {E : Nv} {σ : L2.St} {ars : List Ar} {vs : List V} {Q : VK} (st : StOk g ρ G E F σ H) (ra : ArsOk g F σ ars vs) (hn : vs.length = n) (q : postN g W ρ G F σ Q (resCN fn ars E)) : spF g n fn vs H Q (WE W σ) := by
  unfold resCN at q
  cases z : lend E 0 ars with
  | none => simp only [z] at q; exact q.elim
  | some as =>
    simp only [z] at q
    by_cases ho : once ars = true
    · rw [if_pos ho] at q
      obtain ⟨ρ', G', st', back, back2⟩ := lent st ra z ho
      refine ⟨hn, ρ', G', as, F, st', ?_⟩
      revert q
      cases fn as with
      | bad => exact fun q => q
      | val d bs => exact fun q => q.elim
      | new d bs =>
        simp only
        by_cases hs : shape as bs = true
        · rw [if_pos hs]
          intro q p o F' H' st2 gp ow ss
          obtain ⟨gn, st3⟩ := back2 bs F' H' p o hs st2 gp ss
          exact q p o F' H' st3 gn ow ss
        · rw [if_neg hs]; exact fun q => q.elim
      | exc c fs bs =>
        simp only
        by_cases hs : shape as bs = true
        · rw [if_pos hs]; exact fun q dx F' H' st2 ss r => q dx F' H' (back bs F' H' hs st2 ss) ss r
        · rw [if_neg hs]; exact fun q => q.elim
    · rw [if_neg ho] at q; exact q.elim
end
/-- operand lists of n -/
def fAsN (n : Nat) (fs : Nv → R (List Ar)) : Nv → R (List Ar) := fs
section
variable {X : Cx} {g : Gm} {W : WX} {e : Expr} {n : Nat} {fn : Fn} {fs : List (Nv → R Ar)}
theorem fAs_len : ∀ {fs : List (Nv → R Ar)} {E E' : Nv} {as : List Ar}, fAs fs E = .val as E' → as.length = fs.length
  | [], _, _, _, h => by cases h; rfl
  | f :: fs, E, E', as, h => by
    unfold fAs at h
    cases z : f E with
    | val a E1 =>
      simp only [z, R.bind] at h
      cases z2 : fAs fs E1 with
      | val as' E2 => simp only [z2, R.bind_val] at h; cases h; simp [fAs_len z2]
      | exc _ _ _ => simp only [z2] at h; cases h
      | bad => simp only [z2] at h; cases h
    | exc _ _ _ => simp only [z] at h; cases h
    | bad => simp only [z] at h; cases h
theorem bindA {γ δ : Type} {rel2 : Hp → L2.St → γ → δ → Prop} {ρ : Nat → Addr} {G F H : Hp} {E : Nv} {σ : L2.St} {k : List Ar → Nv → R γ} {Q2 : δ → Hp → Prop} {Q1 : List V → Hp → Prop} (st : StOk g ρ G E F σ H) (h : post g W rel2 ρ G F σ Q2 ((fAs fs E).bind k))
    (cont : ∀ a E1 b F1 H1, a.length = fs.length → StOk g ρ G E1 F1 σ H1 → Same F F1 → ArsOk g F1 σ a b → post g W rel2 ρ G F1 σ Q2 (k a E1) → Q1 b H1) : tG g W (relAs g) (fAs fs) σ H Q1 := by
  refine ⟨ρ, G, E, F, st, ?_⟩
  revert h
  cases z : fAs fs E with
  | val a E1 => exact fun h b F' H' st' s r => cont a E1 b F' H' (fAs_len z) st' s r (post.mono (r := k a E1) s h)
  | exc c fs E' => exact fun h => h
  | bad => exact fun h => h
theorem bindAN {ρ : Nat → Addr} {G F H : Hp} {E : Nv} {σ : L2.St} {k : List Ar → Nv → R D} {Q2 : VK} {Q1 : List V → Hp → Prop} (st : StOk g ρ G E F σ H) (h : postN g W ρ G F σ Q2 ((fAs fs E).bind k))
    (cont : ∀ a E1 b F1 H1, a.length = fs.length → StOk g ρ G E1 F1 σ H1 → Same F F1 → ArsOk g F1 σ a b → postN g W ρ G F1 σ Q2 (k a E1) → Q1 b H1) : tG g W (relAs g) (fAs fs) σ H Q1 := by
  refine ⟨ρ, G, E, F, st, ?_⟩
  revert h
  cases z : fAs fs E with
  | val a E1 => exact fun h b F' H' st' s r => cont a E1 b F' H' (fAs_len z) st' s r (postN.mono (r := k a E1) s h)
  | exc c fs E' => exact fun h => h
  | bad => exact fun h => h
/-- f(..) -/
theorem fe_call (h : PE X e (tCallS (spF g n fn) (WE W) (tG g W (relAs g) (fAs fs)))) (hn : fs.length = n) : FE X g W e (fCall fn (fAs fs)) := peImp h fun σ H Q ⟨ρ, G, E, F, st, q⟩ =>
  bindA st q fun a E1 b F1 H1 la st1 s1 r1 q1 => resC_ok st1 r1 (by rw [← r1.length, la, hn]) q1
theorem fn_call (h : PE X e (tCallS (spF g n fn) (WE W) (tG g W (relAs g) (fAs fs)))) (hn : fs.length = n) : FN X g W e (fCallN fn (fAs fs)) := peImp h fun σ H Q ⟨ρ, G, E, F, st, q⟩ =>
  bindAN st q fun a E1 b F1 H1 la st1 s1 r1 q1 => resCN_ok st1 r1 (by rw [← r1.length, la, hn]) q1
end
end FL

namespace FL
open PySem PySem.Spec PyProof.Rows L2

/-! ## data as the library's data -/
mutual
def toPy : D → Option PyData
  | .non => some .none
  | .bl b => some (.bool b)
  | .int i => some (.int i)
  | .str s => some (.str s)
  | .tup ds => (toPyL ds).map .tuple
  | .lst ds => (toPyL ds).map .list
  | _ => none
def toPyL : List D → Option (List PyData)
  | [] => some []
  | d :: ds => (toPy d).bind fun p => (toPyL ds).map (p :: ·)
end
section
variable {g : Gm} {F H : Hp}
mutual
theorem dp_of (sf : Same F H) : ∀ {d : D} {v : V} {p : PyData}, Rep g F d v → toPy d = some p → Dp g.K H v p
  | .non, _, _, h, e => by cases (show _ = V.non from h); cases e; exact .non
  | .bl b, _, _, h, e => by cases (show _ = V.bl b from h); cases e; exact .bl b
  | .int b, _, _, h, e => by cases (show _ = V.int b from h); cases e; exact .int b
  | .str b, _, _, h, e => by cases (show _ = V.str b from h); cases e; exact .str b
  | .tup ds, _, _, h, e => by
    obtain ⟨a, xs, rfl, q, r⟩ := h
    have e : (toPyL ds).map PyData.tuple = some _ := e
    obtain ⟨ps, e1, rfl⟩ := Option.map_eq_some_iff.mp e
    exact .tup (same_t sf q) (dpl_of sf r e1)
  | .lst ds, _, _, h, e => by
    obtain ⟨a, xs, rfl, q, r⟩ := h
    have e : (toPyL ds).map PyData.list = some _ := e
    obtain ⟨ps, e1, rfl⟩ := Option.map_eq_some_iff.mp e
    exact .lst (.of (sf _ _ q)) (dpl_of sf r e1)
  | .ins _ _ _, _, _, _, e => nomatch e
  | .scr _, _, _, _, e => nomatch e
  | .ty _, _, _, _, e => nomatch e
  | .cls _, _, _, _, e => nomatch e
  | .raw _, _, _, _, e => nomatch e
  | .emp, _, _, _, e => nomatch e
theorem dpl_of (sf : Same F H) : ∀ {ds : List D} {vs : List V} {ps : List PyData}, RepL g F ds vs → toPyL ds = some ps → DpAll g.K H vs ps
  | [], _, _, h, e => by cases (show _ = [] from h); cases e; exact .nil
  | d :: ds, _, _, h, e => by
    obtain ⟨x, xs, rfl, r, t⟩ := h
    have e : (toPy d).bind (fun p => (toPyL ds).map (p :: ·)) = some _ := e
    obtain ⟨p, e1, e2⟩ := Option.bind_eq_some_iff.mp e
    obtain ⟨ps, e3, rfl⟩ := Option.map_eq_some_iff.mp e2
    exact .cons (dp_of sf r e1) (dpl_of sf t e3)
end
theorem dp_ofH (sf : Same F H) {d : D} {v : V} {p : PyData} (h : RepH g F H d v) (e : toPy d = some p) : Dp g.K H v p := by
  rcases h with h | ⟨q, o, rfl, hq, ow⟩
  · exact dp_of sf h e
  · cases d with
    | lst ds =>
      obtain ⟨xs, rfl, r⟩ := ow
      have e : (toPyL ds).map PyData.list = some _ := e
      obtain ⟨ps, e1, rfl⟩ := Option.map_eq_some_iff.mp e
      exact .lst (.of hq) (dpl_of sf r e1)
    | ins _ _ _ => cases e
    | _ => exact ow.elim
end
/-- equality of data, where the library's rule reaches -/
def dEq (d e : D) : Option Bool := match toPy d, toPy e with
  | some p, some q => if SeqAt.shaped p = true ∧ SeqAt.shaped q = true then some (PyData.eqv p q) else none
  | _, _ => none
def oEq (d e : D) : Option D := (dEq d e).map .bl
def oNe (d e : D) : Option D := (dEq d e).map fun b => .bl (!b)
def itemsOf : D → Option (List D)
  | .lst ds => some ds
  | .tup ds => some ds
  | .scr ns => some (ns.map .int)
  | _ => none
/-- d in e -/
def dIn (d : D) : D → Option Bool
  | .lst es => match toPy d, toPyL es with
    | some p, some qs => if SeqAt.shaped p = true ∧ SeqAt.shaped (.list qs) = true then some (qs.any fun z => PyData.eqv z p) else none
    | _, _ => none
  | .tup es => match toPy d, toPyL es with
    | some p, some qs => if SeqAt.shaped p = true ∧ SeqAt.shaped (.list qs) = true then some (qs.any fun z => PyData.eqv z p) else none
    | _, _ => none
  | .str y => match d with
    | .str x => some (!(Builtin.Str.occurrences y x 0 y.length 1).isEmpty)
    | _ => none
  | _ => none
def oIn (d e : D) : Option D := (dIn d e).map .bl
def oNotIn (d e : D) : Option D := (dIn d e).map fun b => .bl (!b)

/-! ## two-place operations -/
theorem iteSome {α : Type} {c : Prop} [Decidable c] {a z : α} (h : (if c then some a else none) = some z) : c ∧ a = z := by
  by_cases hc : c
  · rw [if_pos hc] at h; exact ⟨hc, Option.some.inj h⟩
  · rw [if_neg hc] at h; cases h
theorem iteSomeO {α : Type} {c : Prop} [Decidable c] {o : Option α} {z : α} (h : (if c then o else none) = some z) : c ∧ o = some z := by
  by_cases hc : c
  · rw [if_pos hc] at h; exact ⟨hc, h⟩
  · rw [if_neg hc] at h; cases h
def oAdd : D → D → Option D
  | .int i, .int j => some (.int (i + j))
  | .str a, .str b => if a.length + b.length ≤ sizeLine then some (.str (a ++ b)) else none
  | .tup a, .tup b => if a.length + b.length ≤ sizeLine then some (.tup (a ++ b)) else none
  | .lst a, .lst b => if a.length + b.length ≤ sizeLine then some (.lst (a ++ b)) else none
  | _, _ => none
def oSub : D → D → Option D
  | .int i, .int j => some (.int (i - j))
  | _, _ => none
def B64 (i : Int) : Prop := -(2 ^ 64) < i ∧ i < 2 ^ 64
def B63 (i : Int) : Prop := -(2 ^ 63) ≤ i ∧ i < 2 ^ 63
def B62 (i : Int) : Prop := -(2 ^ 62) ≤ i ∧ i < 2 ^ 62
open Classical in
noncomputable def oMul : D → D → Option D
  | .int i, .int j => if B64 i ∨ B64 j then some (.int (i * j)) else none
  | .lst ds, .int k => if B63 k ∧ ds.length * k.toNat ≤ sizeLine then some (.lst (List.replicate k.toNat ds).flatten) else none
  | _, _ => none
def oDiv : D → D → Option D
  | .int i, .int j => if 0 < j ∧ j < 1073741824 then some (.int (i / j)) else none
  | _, _ => none
def oMod : D → D → Option D
  | .int i, .int j => if 0 < j then some (.int (i % j)) else none
  | _, _ => none
def oPow : D → D → Option D
  | .int i, .int j => if 0 ≤ j ∧ j ≤ 1000000 ∧ i.natAbs < 2 ^ 64 then some (.int (i ^ j.toNat)) else none
  | _, _ => none
def oAnd : D → D → Option D
  | .int i, .int j => some (.int (Builtin.bitAnd i j))
  | _, _ => none
def intsD : List D → Option (List Int)
  | [] => some []
  | .int i :: ds => match intsD ds with
    | some ns => some (i :: ns)
    | none => none
  | _ => none
def ltT (a b : List D) : Option D := match intsD a, intsD b with
  | some ns, some ms => some (.bl (HT.lexLt ns ms))
  | _, _ => none
def oLt0 : D → D → Option D
  | .int i, .int j => some (.bl (decide (i < j)))
  | .str a, .str b => some (.bl (decide (a.cps.toList < b.cps.toList)))
  | _, _ => none
def oLt : D → D → Option D
  | .int i, .int j => some (.bl (decide (i < j)))
  | .str a, .str b => some (.bl (decide (a.cps.toList < b.cps.toList)))
  | .tup a, .tup b => ltT a b
  | _, _ => none
def oLe : D → D → Option D
  | .int i, .int j => some (.bl (decide (i ≤ j)))
  | .str a, .str b => some (.bl (!decide (b.cps.toList < a.cps.toList)))
  | _, _ => none
def oGt : D → D → Option D
  | .int i, .int j => some (.bl (decide (j < i)))
  | .str a, .str b => some (.bl (decide (b.cps.toList < a.cps.toList)))
  | _, _ => none
def oGe : D → D → Option D
  | .int i, .int j => some (.bl (decide (j ≤ i)))
  | .str a, .str b => some (.bl (!decide (a.cps.toList < b.cps.toList)))
  | _, _ => none
def isNon : D → Option Bool
  | .non => some true
  | .raw _ => none
  | _ => some false
def oIsN (d e : D) : Option D := match e with
  | .non => (isNon d).map .bl
  | _ => none
def oNotN (d e : D) : Option D := match e with
  | .non => (isNon d).map fun b => .bl (!b)
  | _ => none
def dIx {α : Type} (xs : List α) (i : Int) : Option α := atI xs i
def oIx : D → D → Option D
  | .lst ds, .int i => atI ds i
  | .tup ds, .int i => atI ds i
  | .str z, .int i => if z.length ≤ sizeLine then (atI z.cps.toList i).map fun c => .str ⟨#[c]⟩ else none
  | _, _ => none
theorem atI_rep {g : Gm} {F : Hp} {ds : List D} {xs : List V} {i : Int} {d : D} (r : RepL g F ds xs) (h : atI ds i = some d) : ∃ v, atI xs i = some v ∧ Rep g F d v := by
  unfold atI at h ⊢
  obtain ⟨j, h1, h2⟩ := Option.bind_eq_some_iff.mp h
  obtain ⟨v, a, b⟩ := r.get h2
  exact ⟨v, Option.bind_eq_some_iff.mpr ⟨j, by rw [← r.length]; exact h1, a⟩, b⟩
section
variable {g : Gm} {X : Cx}
def rAddA (K : PySem.W.Frag) : R2 := fun x y H Q => (((rI0 fun i j => .int (i + j)) x y H Q ∨ ∃ i j, x = .str i ∧ y = .str j ∧ i.length + j.length ≤ sizeLine ∧ Q (.str (i ++ j)) H) ∨ rCatA K x y H Q) ∨ rCat x y H Q
theorem opr_add : OpR X (binaryOp .Add) (rAddA X.K) := ((op_add.or op_add_str).or op_catA).or op_cat
theorem op2_add (g : Gm) : Op2 g (rAddA g.K) oAdd := by
  intro F H v u d e z Q sf rd re ho k
  cases d <;> cases e <;> try (simp [oAdd] at ho; done)
  · rename_i i j
    simp only [oAdd, Option.some.injEq] at ho
    subst ho
    rw [rd.int, re.int]
    exact .inl (.inl (.inl ⟨i, j, rfl, rfl, k _ _ _ .refl rfl⟩))
  · rename_i a b
    obtain ⟨hl, rfl⟩ := iteSome ho
    rw [rd.str, re.str]
    exact .inl (.inl (.inr ⟨a, b, rfl, rfl, hl, k _ _ _ .refl rfl⟩))
  · rename_i a b
    obtain ⟨hl, rfl⟩ := iteSome ho
    obtain ⟨p, xs, rfl, hx, rx⟩ := rd.tup sf
    obtain ⟨q, ys, rfl, hy, ry⟩ := re.tup sf
    refine .inl (.inr ⟨p, q, xs, ys, rfl, rfl, hx, hy, by rw [← rx.length, ← ry.length]; exact hl, fun e0 => ?_, fun n0 e0 => ?_, fun _ _ r hr => ?_⟩)
    · subst e0
      have : a = [] := List.length_eq_zero_iff.mp (by rw [rx.length]; rfl)
      subst this
      have re' : Rep g F (.tup b) (.ref q) := by rcases re with h | ⟨_, _, _, _, h⟩; exact h; exact h.elim
      exact k _ F H .refl re'
    · subst e0
      have : b = [] := List.length_eq_zero_iff.mp (by rw [ry.length]; rfl)
      subst this
      rw [List.append_nil] at k
      have rd' : Rep g F (.tup a) (.ref p) := by rcases rd with h | ⟨_, _, _, _, h⟩; exact h; exact h.elim
      exact k _ F H .refl rd'
    · exact k _ _ _ (.new _ sf hr) ⟨r, _, rfl, .of upd_same, (rx.append ry).mono (Same.new (sf.free hr))⟩
  · rename_i a b
    obtain ⟨hl, rfl⟩ := iteSome ho
    obtain ⟨p, xs, rfl, hx, rx⟩ := rd.lst sf
    obtain ⟨q, ys, rfl, hy, ry⟩ := re.lst sf
    refine .inr ⟨p, q, xs, ys, rfl, rfl, hx, hy, by rw [← rx.length, ← ry.length]; exact hl, fun r hr => ?_⟩
    exact k _ _ _ (.new _ sf hr) ⟨r, _, rfl, upd_same, (rx.append ry).mono (Same.new (sf.free hr))⟩
/-- list + list, a new one -/
def oCat : D → D → Option D
  | .lst a, .lst b => if a.length + b.length ≤ sizeLine then some (.lst (a ++ b)) else none
  | _, _ => none
theorem op2n_cat (g : Gm) : Op2N g rCat oCat := by
  intro F H v u d e z Q sf rd re ho k
  cases d <;> cases e <;> try (simp [oCat] at ho; done)
  rename_i a b
  obtain ⟨hl, rfl⟩ := iteSome ho
  obtain ⟨p, xs, rfl, hx, rx⟩ := rd.lst sf
  obtain ⟨q, ys, rfl, hy, ry⟩ := re.lst sf
  exact ⟨p, q, xs, ys, rfl, rfl, hx, hy, by rw [← rx.length, ← ry.length]; exact hl, fun r hr => k r _ hr ⟨_, rfl, rx.append ry⟩⟩
open Classical in
noncomputable def oRep : D → D → Option D
  | .lst ds, .int k => if B63 k ∧ ds.length * k.toNat ≤ sizeLine then some (.lst (List.replicate k.toNat ds).flatten) else none
  | _, _ => none
open Classical in
theorem op2n_rep (g : Gm) : Op2N g rRep oRep := by
  intro F H v u d e z Q sf rd re ho k
  cases d <;> cases e <;> try (simp [oRep] at ho; done)
  rename_i ds i
  obtain ⟨hl, rfl⟩ := iteSome ho
  obtain ⟨p, xs, rfl, hx, rx⟩ := rd.lst sf
  rw [re.int]
  exact ⟨p, i, xs, rfl, rfl, hx, hl.1.1, hl.1.2, by rw [← rx.length]; exact hl.2, fun r hr => k r _ hr ⟨_, rfl, rx.rep _⟩⟩
theorem op2_sub (g : Gm) : Op2 g (rI0 fun i j => .int (i - j)) oSub := by
  intro F H v u d e z Q sf rd re ho k
  cases d <;> cases e <;> try (simp [oSub] at ho; done)
  simp only [oSub, Option.some.injEq] at ho
  subst ho
  rw [rd.int, re.int]
  exact ⟨_, _, rfl, rfl, k _ _ _ .refl rfl⟩
def rMulA : R2 := fun x y H Q => (rI CMul fun i j => .int (i * j)) x y H Q ∨ rRep x y H Q
theorem opr_mul : OpR X (binaryOp .Mult) rMulA := op_mul.or op_rep
open Classical in
theorem op2_mul (g : Gm) : Op2 g rMulA oMul := by
  intro F H v u d e z Q sf rd re ho k
  cases d <;> cases e <;> try (simp [oMul] at ho; done)
  · obtain ⟨hc, rfl⟩ := iteSome ho
    rw [rd.int, re.int]
    exact .inl ⟨_, _, rfl, rfl, hc, k _ _ _ .refl rfl⟩
  · rename_i ds i
    obtain ⟨hl, rfl⟩ := iteSome ho
    obtain ⟨p, xs, rfl, hx, rx⟩ := rd.lst sf
    rw [re.int]
    exact .inr ⟨p, i, xs, rfl, rfl, hx, hl.1.1, hl.1.2, by rw [← rx.length]; exact hl.2, fun r hr => k _ _ _ (.new _ sf hr) ⟨r, _, rfl, upd_same, (rx.rep _).mono (Same.new (sf.free hr))⟩⟩
theorem op2_div (g : Gm) : Op2 g (rI CDiv fun i j => .int (i / j)) oDiv := by
  intro F H v u d e z Q sf rd re ho k
  cases d <;> cases e <;> try (simp [oDiv] at ho; done)
  obtain ⟨hc, rfl⟩ := iteSome ho
  rw [rd.int, re.int]
  exact ⟨_, _, rfl, rfl, hc, k _ _ _ .refl rfl⟩
theorem op2_mod (g : Gm) : Op2 g (rI (fun _ j => 0 < j) fun i j => .int (i % j)) oMod := by
  intro F H v u d e z Q sf rd re ho k
  cases d <;> cases e <;> try (simp [oMod] at ho; done)
  obtain ⟨hc, rfl⟩ := iteSome ho
  rw [rd.int, re.int]
  exact ⟨_, _, rfl, rfl, hc, k _ _ _ .refl rfl⟩
theorem op2_pow (g : Gm) : Op2 g (rI CPow fun i j => .int (i ^ j.toNat)) oPow := by
  intro F H v u d e z Q sf rd re ho k
  cases d <;> cases e <;> try (simp [oPow] at ho; done)
  obtain ⟨hc, rfl⟩ := iteSome ho
  rw [rd.int, re.int]
  exact ⟨_, _, rfl, rfl, hc, k _ _ _ .refl rfl⟩
theorem op2_and (g : Gm) : Op2 g (rI0 fun i j => .int (Builtin.bitAnd i j)) oAnd := by
  intro F H v u d e z Q sf rd re ho k
  cases d <;> cases e <;> try (simp [oAnd] at ho; done)
  simp only [oAnd, Option.some.injEq] at ho
  subst ho
  rw [rd.int, re.int]
  exact ⟨_, _, rfl, rfl, k _ _ _ .refl rfl⟩
def rCmpA (p : Int → Int → Bool) (q : Str → Str → Bool) : R2 := fun x y H Q => (rI0 fun i j => .bl (p i j)) x y H Q ∨ ∃ i j, x = .str i ∧ y = .str j ∧ Q (.bl (q i j)) H
theorem op2_cmp (g : Gm) {p : Int → Int → Bool} {q : Str → Str → Bool} {o : D → D → Option D} (h1 : ∀ i j, o (.int i) (.int j) = some (.bl (p i j))) (h2 : ∀ i j, o (.str i) (.str j) = some (.bl (q i j)))
    (h3 : ∀ d e z, o d e = some z → (∃ i j, d = .int i ∧ e = .int j) ∨ ∃ i j, d = .str i ∧ e = .str j) : Op2 g (rCmpA p q) o := by
  intro F H v u d e z Q sf rd re ho k
  rcases h3 d e z ho with ⟨i, j, rfl, rfl⟩ | ⟨i, j, rfl, rfl⟩
  · rw [h1] at ho; cases ho
    rw [rd.int, re.int]
    exact .inl ⟨_, _, rfl, rfl, k _ _ _ .refl rfl⟩
  · rw [h2] at ho; cases ho
    rw [rd.str, re.str]
    exact .inr ⟨_, _, rfl, rfl, k _ _ _ .refl rfl⟩
def rLtA (K : PySem.W.Frag) : R2 := fun x y H Q => (rCmpA (fun i j => decide (i < j)) fun i j => decide (i.cps.toList < j.cps.toList)) x y H Q ∨ rLtT K x y H Q
theorem opr_lt (hu : X.A.units + 64 < cLine) : OpR X (compareOp .Lt) (rLtA X.K) := (op_lt.or op_lt_str).or (op_ltT (by omega))
theorem opr_le : OpR X (compareOp .LtE) (rCmpA (fun i j => decide (i ≤ j)) fun i j => !decide (j.cps.toList < i.cps.toList)) := op_le.or op_le_str
theorem opr_gt : OpR X (compareOp .Gt) (rCmpA (fun i j => decide (j < i)) fun i j => decide (j.cps.toList < i.cps.toList)) := op_gt.or op_gt_str
theorem opr_ge : OpR X (compareOp .GtE) (rCmpA (fun i j => decide (j ≤ i)) fun i j => !decide (i.cps.toList < j.cps.toList)) := op_ge.or op_ge_str
theorem op2_lt0 (g : Gm) : Op2 g (rCmpA (fun i j => decide (i < j)) fun i j => decide (i.cps.toList < j.cps.toList)) oLt0 := op2_cmp g (fun _ _ => rfl) (fun _ _ => rfl) fun d e z h => by
  cases d <;> cases e <;> first | exact .inl ⟨_, _, rfl, rfl⟩ | exact .inr ⟨_, _, rfl, rfl⟩ | cases h
theorem repl_intsD {g : Gm} {F : Hp} : ∀ {ds : List D} {ns : List Int} {xs : List V}, RepL g F ds xs → intsD ds = some ns → xs = ns.map V.int
  | [], ns, xs, r, e => by
    cases e
    exact r
  | d :: ds, ns, xs, r, e => by
    cases d with
    | int i =>
      rw [intsD] at e
      obtain ⟨x, ys, rfl, rx, ry⟩ := r
      cases z : intsD ds with
      | none => rw [z] at e; cases e
      | some ms =>
        rw [z] at e
        cases e
        rw [repl_intsD ry z]
        obtain rfl : x = .int i := rx
        rfl
    | _ => cases e
theorem op2_lt (g : Gm) : Op2 g (rLtA g.K) oLt := by
  intro F H v u d e z Q sf rd re ho k
  by_cases ht : ∃ a b, d = .tup a ∧ e = .tup b
  · obtain ⟨a, b, rfl, rfl⟩ := ht
    have ho : ltT a b = some z := ho
    unfold ltT at ho
    cases ha : intsD a with
    | none => rw [ha] at ho; cases ho
    | some ns =>
      cases hb : intsD b with
      | none => rw [ha, hb] at ho; cases ho
      | some ms =>
        rw [ha, hb] at ho
        cases ho
        obtain ⟨p, xs, rfl, hp, rp⟩ := rd.tup sf
        obtain ⟨q, ys, rfl, hq, rq⟩ := re.tup sf
        rw [repl_intsD rp ha] at hp
        rw [repl_intsD rq hb] at hq
        exact .inr ⟨p, q, ns, ms, rfl, rfl, hp, hq, k _ _ _ .refl rfl⟩
  · refine .inl (op2_lt0 g F H v u d e z Q sf rd re ?_ k)
    rw [← ho]
    cases d <;> cases e <;> first | rfl | exact (ht ⟨_, _, rfl, rfl⟩).elim
theorem op2_le (g : Gm) : Op2 g (rCmpA (fun i j => decide (i ≤ j)) fun i j => !decide (j.cps.toList < i.cps.toList)) oLe := op2_cmp g (fun _ _ => rfl) (fun _ _ => rfl) fun d e z h => by
  cases d <;> cases e <;> first | exact .inl ⟨_, _, rfl, rfl⟩ | exact .inr ⟨_, _, rfl, rfl⟩ | cases h
theorem op2_gt (g : Gm) : Op2 g (rCmpA (fun i j => decide (j < i)) fun i j => decide (j.cps.toList < i.cps.toList)) oGt := op2_cmp g (fun _ _ => rfl) (fun _ _ => rfl) fun d e z h => by
  cases d <;> cases e <;> first | exact .inl ⟨_, _, rfl, rfl⟩ | exact .inr ⟨_, _, rfl, rfl⟩ | cases h
theorem op2_ge (g : Gm) : Op2 g (rCmpA (fun i j => decide (j ≤ i)) fun i j => !decide (i.cps.toList < j.cps.toList)) oGe := op2_cmp g (fun _ _ => rfl) (fun _ _ => rfl) fun d e z h => by
  cases d <;> cases e <;> first | exact .inl ⟨_, _, rfl, rfl⟩ | exact .inr ⟨_, _, rfl, rfl⟩ | cases h
theorem op2_eq (g : Gm) : Op2 g (rEqD g.K) oEq := by
  intro F H v u d e z Q sf rd re ho k
  unfold oEq dEq at ho
  split at ho
  · rename_i p q hp hq
    split at ho
    · rename_i hs
      cases ho
      exact ⟨p, q, dp_ofH sf rd hp, dp_ofH sf re hq, hs.1, hs.2, k _ _ _ .refl rfl⟩
    · cases ho
  · cases ho
theorem op2_ne (g : Gm) : Op2 g (rNeD g.K) oNe := by
  intro F H v u d e z Q sf rd re ho k
  unfold oNe dEq at ho
  split at ho
  · rename_i p q hp hq
    split at ho
    · rename_i hs
      cases ho
      exact ⟨p, q, dp_ofH sf rd hp, dp_ofH sf re hq, hs.1, hs.2, k _ _ _ .refl rfl⟩
    · cases ho
  · cases ho
def rIsNA : R2 := fun x y H Q => y = .non ∧ Q (.bl (decide (x = .non))) H
def rNotNA : R2 := fun x y H Q => y = .non ∧ Q (.bl (!decide (x = .non))) H
theorem isNon_ok {F H : Hp} {d : D} {v : V} {b : Bool} (rd : RepH g F H d v) (h : isNon d = some b) : decide (v = .non) = b := by
  cases d with
  | non => cases h; rw [rd.non]; rfl
  | bl _ => cases h; rw [rd.bl]; rfl
  | int _ => cases h; rw [rd.int]; rfl
  | str _ => cases h; rw [rd.str]; rfl
  | ty _ => cases h; rw [rd.ty]; rfl
  | cls _ => cases h; rw [rd.cls]; rfl
  | raw _ => cases h
  | emp => cases h; rcases rd with ⟨a, e, _⟩ | ⟨_, _, _, _, e⟩; rw [e]; rfl; exact e.elim
  | tup _ => cases h; rcases rd with ⟨a, xs, e, _⟩ | ⟨_, _, _, _, e⟩; rw [e]; rfl; exact e.elim
  | scr _ => cases h; rcases rd with ⟨a, e, _⟩ | ⟨_, _, _, _, e⟩; rw [e]; rfl; exact e.elim
  | lst _ => cases h; rcases rd with ⟨a, xs, e, _⟩ | ⟨_, _, e, _⟩ <;> (rw [e]; rfl)
  | ins _ _ _ => cases h; rcases rd with ⟨a, dx, xs, e, _⟩ | ⟨_, _, e, _⟩ <;> (rw [e]; rfl)
theorem op2_isN (g : Gm) : Op2 g rIsNA oIsN := by
  intro F H v u d e z Q sf rd re ho k
  cases e <;> try (simp [oIsN] at ho; done)
  unfold oIsN at ho
  obtain ⟨b, h1, rfl⟩ := Option.map_eq_some_iff.mp ho
  exact ⟨re.non, by rw [isNon_ok rd h1]; exact k _ _ _ .refl rfl⟩
theorem op2_notN (g : Gm) : Op2 g rNotNA oNotN := by
  intro F H v u d e z Q sf rd re ho k
  cases e <;> try (simp [oNotN] at ho; done)
  unfold oNotN at ho
  obtain ⟨b, h1, rfl⟩ := Option.map_eq_some_iff.mp ho
  exact ⟨re.non, by rw [isNon_ok rd h1]; exact k _ _ _ .refl rfl⟩
/-! in -/
def rInT (K : PySem.W.Frag) : R2 := fun x y H Q => ∃ d ds, Dp K H x d ∧ Dp K H y (.tuple ds) ∧ SeqAt.shaped d = true ∧ SeqAt.shaped (.list ds) = true ∧ Q (.bl (ds.any fun z => PyData.eqv z d)) H
def rNotInT (K : PySem.W.Frag) : R2 := fun x y H Q => ∃ d ds, Dp K H x d ∧ Dp K H y (.tuple ds) ∧ SeqAt.shaped d = true ∧ SeqAt.shaped (.list ds) = true ∧ Q (.bl (!ds.any fun z => PyData.eqv z d)) H
theorem room_in' {u c : Nat} {d : PyData} {ds : List PyData} (hd : SeqAt.shaped d = true) (hu : u + 65 < c) : u + 1 + min (PyData.depthAll ds) d.depth < c := by
  have h1 : d.depth ≤ 64 := SeqAt.depth_of_shaped hd
  have h2 := Nat.min_le_right (PyData.depthAll ds) d.depth
  omega
theorem op_inT (hu : X.A.units + 65 < cLine) : OpR X (compareOp .In) (rInT X.K) := by
  intro pins s σ H x y v u Q I rx ry h
  obtain ⟨d, ds, hd, he, sd, se, q⟩ := h
  obtain ⟨as, r1⟩ := Dp.reads I d x v hd rx
  obtain ⟨bs, r2⟩ := Dp.reads I (.tuple ds) y u he ry
  exact SeqAt.in_tuple_reads r2 r1 (SeqAt.canLay_of_shaped se) (SeqAt.canLay_of_shaped sd) (room_in' sd hu) ⟨.bl _, H, I, rfl, q⟩
theorem op_notInT (hu : X.A.units + 65 < cLine) : OpR X (compareOp .NotIn) (rNotInT X.K) := by
  intro pins s σ H x y v u Q I rx ry h
  obtain ⟨d, ds, hd, he, sd, se, q⟩ := h
  obtain ⟨as, r1⟩ := Dp.reads I d x v hd rx
  obtain ⟨bs, r2⟩ := Dp.reads I (.tuple ds) y u he ry
  exact SeqAt.notIn_tuple_reads r2 r1 (SeqAt.canLay_of_shaped se) (SeqAt.canLay_of_shaped sd) (room_in' sd hu) ⟨.bl _, H, I, rfl, q⟩
def rInA (K : PySem.W.Frag) : R2 := fun x y H Q => (rInD K x y H Q ∨ rInT K x y H Q) ∨ ∃ i j, x = .str i ∧ y = .str j ∧ Q (.bl (!(Builtin.Str.occurrences j i 0 j.length 1).isEmpty)) H
def rNotInA (K : PySem.W.Frag) : R2 := fun x y H Q => (rNotInD K x y H Q ∨ rNotInT K x y H Q) ∨ ∃ i j, x = .str i ∧ y = .str j ∧ Q (.bl (!(!(Builtin.Str.occurrences j i 0 j.length 1).isEmpty))) H
theorem opr_in (hu : X.A.units + 65 < cLine) : OpR X (compareOp .In) (rInA X.K) := ((op_inD hu).or (op_inT hu)).or op_in_str
theorem opr_notIn (hu : X.A.units + 65 < cLine) : OpR X (compareOp .NotIn) (rNotInA X.K) := ((op_notInD hu).or (op_notInT hu)).or op_notin_str
theorem dIn_ok {F H : Hp} {v u : V} {d e : D} {b : Bool} (sf : Same F H) (rd : RepH g F H d v) (re : RepH g F H e u) (h : dIn d e = some b) :
    ((∃ p ds, Dp g.K H v p ∧ Dp g.K H u (.list ds) ∧ SeqAt.shaped p = true ∧ SeqAt.shaped (.list ds) = true ∧ (ds.any fun z => PyData.eqv z p) = b) ∨ (∃ p ds, Dp g.K H v p ∧ Dp g.K H u (.tuple ds) ∧ SeqAt.shaped p = true ∧ SeqAt.shaped (.list ds) = true ∧ (ds.any fun z => PyData.eqv z p) = b)) ∨
      ∃ i j, v = .str i ∧ u = .str j ∧ (!(Builtin.Str.occurrences j i 0 j.length 1).isEmpty) = b := by
  unfold dIn at h
  cases e with
  | lst es =>
    simp only at h
    split at h
    · rename_i p qs hp hq
      split at h
      · rename_i hs
        cases h
        exact .inl (.inl ⟨p, qs, dp_ofH sf rd hp, dp_ofH sf re (by show (toPyL es).map PyData.list = _; rw [hq]; rfl), hs.1, hs.2, rfl⟩)
      · cases h
    · cases h
  | tup es =>
    simp only at h
    split at h
    · rename_i p qs hp hq
      split at h
      · rename_i hs
        cases h
        exact .inl (.inr ⟨p, qs, dp_ofH sf rd hp, dp_ofH sf re (by show (toPyL es).map PyData.tuple = _; rw [hq]; rfl), hs.1, hs.2, rfl⟩)
      · cases h
    · cases h
  | str y =>
    simp only at h
    cases d <;> try (simp at h; done)
    cases h
    exact .inr ⟨_, y, rd.str, re.str, rfl⟩
  | _ => cases h
theorem op2_in (g : Gm) : Op2 g (rInA g.K) oIn := by
  intro F H v u d e z Q sf rd re ho k
  unfold oIn at ho
  obtain ⟨b, h1, rfl⟩ := Option.map_eq_some_iff.mp ho
  have q := k (.bl b) _ _ .refl rfl
  rcases dIn_ok sf rd re h1 with (⟨p, ds, a1, a2, a3, a4, rfl⟩ | ⟨p, ds, a1, a2, a3, a4, rfl⟩) | ⟨i, j, a1, a2, rfl⟩
  · exact .inl (.inl ⟨p, ds, a1, a2, a3, a4, q⟩)
  · exact .inl (.inr ⟨p, ds, a1, a2, a3, a4, q⟩)
  · exact .inr ⟨i, j, a1, a2, q⟩
theorem op2_notIn (g : Gm) : Op2 g (rNotInA g.K) oNotIn := by
  intro F H v u d e z Q sf rd re ho k
  unfold oNotIn at ho
  obtain ⟨b, h1, rfl⟩ := Option.map_eq_some_iff.mp ho
  have q := k (.bl (!b)) _ _ .refl rfl
  rcases dIn_ok sf rd re h1 with (⟨p, ds, a1, a2, a3, a4, rfl⟩ | ⟨p, ds, a1, a2, a3, a4, rfl⟩) | ⟨i, j, a1, a2, rfl⟩
  · exact .inl (.inl ⟨p, ds, a1, a2, a3, a4, q⟩)
  · exact .inl (.inr ⟨p, ds, a1, a2, a3, a4, q⟩)
  · exact .inr ⟨i, j, a1, a2, q⟩
theorem op2_ix (g : Gm) : Op2 g (rIx g.K) oIx := by
  intro F H v u d e z Q sf rd re ho k
  cases d <;> cases e <;> try (simp [oIx] at ho; done)
  · rename_i z' i
    obtain ⟨hl, ho⟩ := iteSomeO ho
    obtain ⟨c, h1, rfl⟩ := Option.map_eq_some_iff.mp ho
    rw [rd.str, re.int]
    exact .inr (.inr ⟨z', i, c, rfl, rfl, hl, h1, k _ _ _ .refl rfl⟩)
  · rename_i ds i
    obtain ⟨p, xs, rfl, hx, rx⟩ := rd.tup sf
    obtain ⟨w, h1, h2⟩ := atI_rep rx ho
    rw [re.int]
    exact .inr (.inl ⟨p, xs, i, w, rfl, rfl, hx, h1, k _ _ _ .refl h2⟩)
  · rename_i ds i
    obtain ⟨p, xs, rfl, hx, rx⟩ := rd.lst sf
    obtain ⟨w, h1, h2⟩ := atI_rep rx ho
    rw [re.int]
    exact .inl ⟨p, xs, i, w, rfl, rfl, .of hx, h1, k _ _ _ .refl h2⟩
end

/-! ## argument lists -/
def oLen : List D → Option D
  | [.lst ds] => if ds.length ≤ sizeLine then some (.int ds.length) else none
  | [.tup ds] => if ds.length ≤ sizeLine then some (.int ds.length) else none
  | [.scr ns] => if ns.length ≤ sizeLine then some (.int ns.length) else none
  | [.str z] => if z.length ≤ sizeLine then some (.int z.length) else none
  | _ => none
def asBs : List D → Option (List Bool)
  | [] => some []
  | .bl b :: r => (asBs r).map (b :: ·)
  | _ => none
def oAll : List D → Option D
  | [.lst ds] => (asBs ds).map fun bs => .bl (bs.all id)
  | _ => none
def oAny : List D → Option D
  | [.lst ds] => (asBs ds).map fun bs => .bl (bs.any id)
  | _ => none
def oTuple : List D → Option D
  | [.lst ds] => some (.tup ds)
  | [.tup ds] => some (.tup ds)
  | _ => none
def oList : List D → Option D
  | [.lst ds] => some (.lst ds)
  | [.tup ds] => some (.lst ds)
  | [.scr ns] => some (.lst (ns.map .int))
  | _ => none
def oInt : List D → Option D
  | [.int i] => some (.int i)
  | [.bl b] => some (.int (if b then 1 else 0))
  | _ => none
def oAbs : List D → Option D
  | [.int i] => some (.int (if i < 0 then -i else i))
  | _ => none
def oMin2 : List D → Option D
  | [.int i, .int j] => some (.int (if j < i then j else i))
  | _ => none
def oMax2 : List D → Option D
  | [.int i, .int j] => some (.int (if j > i then j else i))
  | _ => none
def tyName : D → Option String
  | .non => some "NoneType"
  | .bl _ => some "bool"
  | .int _ => some "int"
  | .str _ => some "str"
  | .tup _ => some "tuple"
  | .lst _ => some "list"
  | .scr _ => some "list"
  | .emp => some "dict"
  | _ => none
def subTy (a b : String) : Bool := a == b || (a == "bool" && b == "int")
def tys : List String := ["NoneType", "bool", "int", "str", "tuple", "list", "dict"]
def tgs : List String := ["bool", "int", "str", "tuple", "list", "dict"]
theorem kitB_tys : ∀ a ∈ tys, ∀ b ∈ tgs, kitB a b = some (subTy a b) := by decide +kernel
/-- isinstance of a thing for one class (N: how many own classes there are) -/
def isiOne (N : Nat) (x : D) : D → Option Bool
  | .ty T => match tyName x with
    | some t => if tgs.contains T = true then some (subTy t T) else none
    | none => none
  | .cls c => match x with
    | .ins c' _ _ => if c = c' then some true else (if c < N ∧ c' < N then some false else none)
    | x => match tyName x with
      | some _ => some false
      | none => none
  | _ => none
def oIsi (N : Nat) : List D → Option D
  | [x, c] => (isiOne N x c).map .bl
  | _ => none
section
variable {g : Gm} {X : Cx}
theorem opL_len (g : Gm) : OpL g (fun xs H Q => (∃ p ys, xs = [.ref p] ∧ (SqL g.K H p ys ∨ SqT g.K H p ys) ∧ Q (.int ys.length) H) ∨ ∃ z, xs = [.str z] ∧ z.length ≤ sizeLine ∧ Q (.int z.length) H) oLen := by
  intro F H vs ds z Q sf r ho k
  unfold oLen at ho
  split at ho
  · split at ho
    · cases ho
      obtain ⟨x, rfl, rx⟩ := r.one
      obtain ⟨p, xs, rfl, hx, rl⟩ := rx.lst sf
      exact .inl ⟨p, xs, rfl, .inl (.of hx), by rw [← rl.length]; exact k _ _ _ .refl rfl⟩
    · cases ho
  · split at ho
    · cases ho
      obtain ⟨x, rfl, rx⟩ := r.one
      obtain ⟨p, xs, rfl, hx, rl⟩ := rx.tup sf
      exact .inl ⟨p, xs, rfl, .inr hx, by rw [← rl.length]; exact k _ _ _ .refl rfl⟩
    · cases ho
  · split at ho
    · cases ho
      obtain ⟨x, rfl, rx⟩ := r.one
      obtain ⟨p, rfl, hx⟩ := rx.scr sf
      exact .inl ⟨p, _, rfl, .inl hx, by rw [List.length_map]; exact k _ _ _ .refl rfl⟩
    · cases ho
  · split at ho
    · rename_i hz
      cases ho
      obtain ⟨x, rfl, rx⟩ := r.one
      rw [rx.str]
      exact .inr ⟨_, rfl, hz, k _ _ _ .refl rfl⟩
    · cases ho
  · cases ho
theorem callr_len : CallR X (.builtin "len") (fun xs H Q => (∃ p ys, xs = [.ref p] ∧ (SqL X.K H p ys ∨ SqT X.K H p ys) ∧ Q (.int ys.length) H) ∨ ∃ z, xs = [.str z] ∧ z.length ≤ sizeLine ∧ Q (.int z.length) H) := call_len_seq.or call_len_str
theorem asBs_ok {F : Hp} : ∀ {ds : List D} {vs : List V} {bs : List Bool}, RepL g F ds vs → asBs ds = some bs → vs = bs.map V.bl
  | [], _, _, h, e => by cases (show _ = [] from h); cases e; rfl
  | d :: ds, _, _, h, e => by
    obtain ⟨x, xs, rfl, r, t⟩ := h
    cases d <;> try (simp [asBs] at e; done)
    rename_i b
    have e : (asBs ds).map (b :: ·) = some _ := e
    obtain ⟨bs, e1, rfl⟩ := Option.map_eq_some_iff.mp e
    rw [asBs_ok t e1, show x = V.bl b from r]
    rfl
theorem opL_all (g : Gm) : OpL g (rAll g.K) oAll := by
  intro F H vs ds z Q sf r ho k
  unfold oAll at ho
  split at ho
  · obtain ⟨bs, h1, rfl⟩ := Option.map_eq_some_iff.mp ho
    obtain ⟨x, rfl, rx⟩ := r.one
    obtain ⟨p, xs, rfl, hx, rl⟩ := rx.lst sf
    rw [asBs_ok rl h1] at hx
    exact ⟨p, bs, rfl, .of hx, k _ _ _ .refl rfl⟩
  · cases ho
theorem opL_any (g : Gm) : OpL g (rAny g.K) oAny := by
  intro F H vs ds z Q sf r ho k
  unfold oAny at ho
  split at ho
  · obtain ⟨bs, h1, rfl⟩ := Option.map_eq_some_iff.mp ho
    obtain ⟨x, rfl, rx⟩ := r.one
    obtain ⟨p, xs, rfl, hx, rl⟩ := rx.lst sf
    rw [asBs_ok rl h1] at hx
    exact ⟨p, bs, rfl, .of hx, k _ _ _ .refl rfl⟩
  · cases ho
theorem opL_tuple (g : Gm) : OpL g (fun xs H Q => ∃ p ys, xs = [.ref p] ∧ ((SqL g.K H p ys ∧ ∀ l, H l = none → Q (.ref l) (upd H l (.tup ys))) ∨ (SqT g.K H p ys ∧ Q (.ref p) H))) oTuple := by
  intro F H vs ds z Q sf r ho k
  unfold oTuple at ho
  split at ho
  · cases ho
    obtain ⟨x, rfl, rx⟩ := r.one
    obtain ⟨p, xs, rfl, hx, rl⟩ := rx.lst sf
    exact ⟨p, xs, rfl, .inl ⟨.of hx, fun l hl => k _ _ _ (.new _ sf hl) ⟨l, xs, rfl, .of upd_same, rl.mono (Same.new (sf.free hl))⟩⟩⟩
  · rename_i ts
    cases ho
    obtain ⟨x, rfl, rx⟩ := r.one
    have rx' := rx
    obtain ⟨p, xs, rfl, hx, rl⟩ := rx.tup sf
    have rx2 : Rep g F (.tup ts) (.ref p) := by rcases rx' with h | ⟨_, _, _, _, h⟩; exact h; exact h.elim
    exact ⟨p, xs, rfl, .inr ⟨hx, k _ _ _ .refl rx2⟩⟩
  · cases ho
theorem opN_list (g : Gm) : OpN g (fun xs H Q => ∃ p ys, xs = [.ref p] ∧ (SqL g.K H p ys ∨ SqT g.K H p ys) ∧ ∀ l, H l = none → Q (.ref l) (upd H l (.lst ys))) oList := by
  intro F H vs ds z Q sf r ho k
  unfold oList at ho
  split at ho
  · cases ho
    obtain ⟨x, rfl, rx⟩ := r.one
    obtain ⟨p, xs, rfl, hx, rl⟩ := rx.lst sf
    exact ⟨p, xs, rfl, .inl (.of hx), fun l hl => k _ _ hl ⟨xs, rfl, rl⟩⟩
  · cases ho
    obtain ⟨x, rfl, rx⟩ := r.one
    obtain ⟨p, xs, rfl, hx, rl⟩ := rx.tup sf
    exact ⟨p, xs, rfl, .inr hx, fun l hl => k _ _ hl ⟨xs, rfl, rl⟩⟩
  · cases ho
    obtain ⟨x, rfl, rx⟩ := r.one
    obtain ⟨p, rfl, hx⟩ := rx.scr sf
    exact ⟨p, _, rfl, .inl hx, fun l hl => k _ _ hl ⟨_, rfl, RepL.ints _⟩⟩
  · cases ho
theorem opL_int (g : Gm) : OpL g (fun xs H Q => (∃ i, xs = [.int i] ∧ Q (.int i) H) ∨ ∃ k, xs = [.bl k] ∧ Q (.int (if k then 1 else 0)) H) oInt := by
  intro F H vs ds z Q sf r ho k
  unfold oInt at ho
  split at ho
  · cases ho
    obtain ⟨x, rfl, rx⟩ := r.one
    rw [rx.int]
    exact .inl ⟨_, rfl, k _ _ _ .refl rfl⟩
  · cases ho
    obtain ⟨x, rfl, rx⟩ := r.one
    rw [rx.bl]
    exact .inr ⟨_, rfl, k _ _ _ .refl rfl⟩
  · cases ho
theorem opL_abs (g : Gm) : OpL g (fun xs H Q => ∃ i, xs = [.int i] ∧ Q (.int (if i < 0 then -i else i)) H) oAbs := by
  intro F H vs ds z Q sf r ho k
  unfold oAbs at ho
  split at ho
  · cases ho
    obtain ⟨x, rfl, rx⟩ := r.one
    rw [rx.int]
    exact ⟨_, rfl, k _ _ _ .refl rfl⟩
  · cases ho
theorem opL_min2 (g : Gm) : OpL g (fun xs H Q => ∃ i j, xs = [.int i, .int j] ∧ Q (.int (if j < i then j else i)) H) oMin2 := by
  intro F H vs ds z Q sf r ho k
  unfold oMin2 at ho
  split at ho
  · cases ho
    obtain ⟨x, y, rfl, rx, ry⟩ := r.two
    rw [rx.int, ry.int]
    exact ⟨_, _, rfl, k _ _ _ .refl rfl⟩
  · cases ho
theorem opL_max2 (g : Gm) : OpL g (fun xs H Q => ∃ i j, xs = [.int i, .int j] ∧ Q (.int (if j > i then j else i)) H) oMax2 := by
  intro F H vs ds z Q sf r ho k
  unfold oMax2 at ho
  split at ho
  · cases ho
    obtain ⟨x, y, rfl, rx, ry⟩ := r.two
    rw [rx.int, ry.int]
    exact ⟨_, _, rfl, k _ _ _ .refl rfl⟩
  · cases ho
/-! isinstance -/
theorem tyx_of {F H : Hp} {d : D} {v : V} {t : String} (sf : Same F H) (r : RepH g F H d v) (h : tyName d = some t) : TyX g.K H v (.type t) ∧ t ∈ tys := by
  have sqt : ∀ {a : Addr} {xs : List V}, SqT g.K H a xs → TyX g.K H (.ref a) (.type "tuple") := fun {a xs} q => by
    rcases q with (q | ⟨o, q⟩) | ⟨o, its, n, hk, hc, _⟩
    · exact .base (.tup q)
    · exact .fTuple q
    · exact .kTuple hk hc
  have sql : ∀ {a : Addr} {xs : List V}, SqL g.K H a xs → TyX g.K H (.ref a) (.type "list") := fun {a xs} q => by
    rcases q with (q | ⟨o, q⟩) | ⟨o, its, n, hk, hc, _⟩
    · exact .base (.lst q)
    · exact .base (.frz q)
    · exact .kList hk hc
  cases d with
  | non => cases h; rw [r.non]; exact ⟨.base .non, by decide⟩
  | bl b => cases h; rw [r.bl]; exact ⟨.base (.bl b), by decide⟩
  | int b => cases h; rw [r.int]; exact ⟨.base (.int b), by decide⟩
  | str b => cases h; rw [r.str]; exact ⟨.base (.str b), by decide⟩
  | tup ds => cases h; obtain ⟨a, xs, rfl, q, _⟩ := r.tup sf; exact ⟨sqt q, by decide⟩
  | lst ds => cases h; obtain ⟨a, xs, rfl, q, _⟩ := r.lst sf; exact ⟨.base (.lst q), by decide⟩
  | scr ns => cases h; obtain ⟨a, rfl, q⟩ := r.scr sf; exact ⟨sql q, by decide⟩
  | emp => cases h; rcases r with ⟨a, rfl, q⟩ | ⟨_, _, _, _, e⟩; exact ⟨.base (.dK (sf _ _ q)), by decide⟩; exact e.elim
  | _ => cases h
/-- facts of the own classes: an instance's type is its class -/
structure InsTy (g : Gm) (c : Nat) : Prop where
  cl : Cls g.K (g.cls c)
  ha : PySem.W.findIn g.K (.ref (g.cls c)) "__class__" = some (some (.builtin "object.__class__"))
  hn : PySem.W.specialIn g.K (.builtin "object.__class__") "__get__" = some (some (.builtin "getset_descriptor.__get__"))
  htk : PySem.W.takesIn g.K (.builtin "object.__class__") = some true
  hm : PySem.W.mroIn g.K (g.cls c) (.type "object") = some true
  ci : (PySem.W.clsIn g.K (g.cls c)).isSome = true
  cy : PySem.W.typeIn g.K (.ref (g.cls c)) = some (.type "type")
theorem sub_own {K : PySem.W.Frag} {C : Addr} : ∀ t ∈ tys, PySem.W.subIn K (.type t) (.ref C) = some false := by
  intro t ht
  simp only [tys, List.mem_cons, List.not_mem_nil, or_false] at ht
  rcases ht with rfl | rfl | rfl | rfl | rfl | rfl | rfl <;> rfl
theorem kit_own {K : PySem.W.Frag} {C : Addr} (ci : (PySem.W.clsIn K C).isSome = true) (cy : PySem.W.typeIn K (.ref C) = some (.type "type")) (t : String) (ht : t ∈ tys) : PySem.W.kitOne K (.type t) (.ref C) = some false := by
  have e1 : (Value.type t == Value.ref C) = false := rfl
  have e2 : ((PySem.W.clsIn K C).isSome && PySem.W.typeIn K (.ref C) == some (.type "type")) = true := by rw [ci, cy] <;> rfl
  unfold PySem.W.kitOne PySem.W.kitCls
  simp only [e1, e2, if_true, Bool.false_eq_true, if_false]
  exact sub_own t ht
/-- unlike own classes -/
def Unlike (g : Gm) (N : Nat) : Prop := ∀ c c', c < N → c' < N → c ≠ c' → PySem.W.kitOne g.K (.ref (g.cls c')) (.ref (g.cls c)) = some false
def clsV (g : Gm) : D → Option (V × Value)
  | .ty T => some (.ty T, .type T)
  | .cls c => some (.ref (g.cls c), .ref (g.cls c))
  | _ => none
theorem isiOne_ok {F H : Hp} {N : Nat} {x c : D} {v u : V} {b : Bool} (hI : ∀ c, InsTy g c) (hU : Unlike g N) (sf : Same F H) (rx : RepH g F H x v) (rc : RepH g F H c u) (h : isiOne N x c = some b) : ∃ t w, ClsV u w ∧ TyX g.K H v t ∧ PySem.W.kitOne g.K t w = some b := by
  unfold isiOne at h
  cases c with
  | ty T =>
    simp only at h
    split at h
    · rename_i t ht
      split at h
      · rename_i hT
        cases h
        obtain ⟨h1, h2⟩ := tyx_of sf rx ht
        rw [rc.ty]
        exact ⟨_, _, .ty T, h1, kit_ty (kitB_tys t h2 T (by simpa using hT))⟩
      · cases h
    · cases h
  | cls c =>
    simp only at h
    split at h
    · rename_i c' ns ds
      obtain ⟨a, dx, xs, rfl, q, _⟩ := rx.ins sf
      rw [rc.cls]
      obtain ⟨cl, ha, hn, htk, hm, _, _⟩ := hI c'
      split at h
      · rename_i e
        cases h
        subst e
        exact ⟨_, _, .own _, .base (.ins q cl ha hn htk hm), by unfold PySem.W.kitOne; rw [if_pos (by simp)]⟩
      · rename_i ne
        split at h
        · rename_i hN
          cases h
          exact ⟨_, _, .own _, .base (.ins q cl ha hn htk hm), hU c c' hN.1 hN.2 ne⟩
        · cases h
    · split at h
      · rename_i t ht
        cases h
        obtain ⟨h1, h2⟩ := tyx_of sf rx ht
        rw [rc.cls]
        exact ⟨_, _, .own _, h1, kit_own (hI c).ci (hI c).cy t h2⟩
      · cases h
  | _ => cases h
theorem opL_isi (g : Gm) {N : Nat} (hI : ∀ c, InsTy g c) (hU : Unlike g N) : OpL g (rIsi g.K) (oIsi N) := by
  intro F H vs ds z Q sf r ho k
  unfold oIsi at ho
  split at ho
  · obtain ⟨b, h1, rfl⟩ := Option.map_eq_some_iff.mp ho
    obtain ⟨x, y, rfl, rx, ry⟩ := r.two
    obtain ⟨t, w, a1, a2, a3⟩ := isiOne_ok hI hU sf rx ry h1
    exact ⟨x, y, t, w, b, rfl, a1, a2, a3, k _ _ _ .refl rfl⟩
  · cases ho
end
end FL

namespace FL
open PySem PySem.Spec PyProof.Rows L2

/-! ## displays -/
def oTupD (ds : List D) : Option D := if ds.length ≤ sizeLine then some (.tup ds) else none
def oLstD (ds : List D) : Option D := if ds.length ≤ sizeLine then some (.lst ds) else none
section
variable {X : Cx} {g : Gm} {W : WX} {e a b c t : Expr} {es : List Expr} {pos : Pos} {st : Stmt} {ρ : Nat → Addr} {G F H : Hp} {E : Nv} {σ : L2.St}
def resV (o : List D → Option D) (E : Nv) (as : List Ar) : R D := match valsOf as with
  | none => .bad
  | some ds => R.some (o ds) E
def fOpV (o : List D → Option D) (fs : Nv → R (List Ar)) : Nv → R D := fun E => (fs E).bind fun as E1 => resV o E1 as
theorem fe_tup {fs : Nv → R (List Ar)} (h : PE X e (tTup (tG g W (relAs g) fs))) : FE X g W e (fOpV oTupD fs) := peImp h fun σ H Q ⟨ρ, G, E, F, st, q⟩ =>
  bindE st q fun as E1 vs F1 H1 st1 s1 r1 q1 => by
    unfold resV at q1
    cases z : valsOf as with
    | none => simp only [z] at q1; exact q1.elim
    | some ds =>
      simp only [z] at q1
      have rl := valsOf_ok r1 z
      unfold oTupD at q1
      by_cases hl : ds.length ≤ sizeLine
      · rw [if_pos hl] at q1
        exact ⟨by rw [← rl.length]; exact hl, fun p hp => q1 _ _ _ (st1.grow hp _) (Same.new (st1.fF hp)) ⟨p, vs, rfl, .of upd_same, rl.mono (Same.new (st1.fF hp))⟩⟩
      · rw [if_neg hl] at q1; exact q1.elim
theorem fn_lst {fs : Nv → R (List Ar)} (h : PE X e (tLst (tG g W (relAs g) fs))) : FN X g W e (fOpV oLstD fs) := peImp h fun σ H Q ⟨ρ, G, E, F, st, q⟩ =>
  bindN st q fun as E1 vs F1 H1 st1 s1 r1 q1 => by
    unfold resV at q1
    cases z : valsOf as with
    | none => simp only [z] at q1; exact q1.elim
    | some ds =>
      simp only [z] at q1
      have rl := valsOf_ok r1 z
      unfold oLstD at q1
      by_cases hl : ds.length ≤ sizeLine
      · rw [if_pos hl] at q1
        exact ⟨by rw [← rl.length]; exact hl, fun p hp => q1 _ _ F1 _ (st1.temp hp _) (st1.fG hp) ⟨vs, rfl, rl⟩ (Same.refl _)⟩
      · rw [if_neg hl] at q1; exact q1.elim

/-! ## slices -/
abbrev relP : Hp → L2.St → Option Int → Option Int → Prop := fun _ _ b c => b = c
abbrev FP (X : Cx) (g : Gm) (W : WX) (e : Option Expr) (f : Nv → R (Option Int)) : Prop := PO X e (tG g W relP f)
def pNone : Nv → R (Option Int) := fun E => .val none E
def asI : D → Option Int
  | .int i => some i
  | _ => none
def pSome (f : Nv → R D) : Nv → R (Option Int) := fun E => (f E).bind fun d E1 => match asI d with
  | some i => .val (some i) E1
  | none => .bad
theorem fp_none : FP X g W none pNone := ⟨fun pins s σ H Q I ⟨ρ, G, E, F, st, q⟩ => po_none.run pins s σ H Q I (q none F H st (Same.refl _) rfl)⟩
theorem fp_some {f : Nv → R D} (h : FE X g W e f) : FP X g W (some e) (pSome f) := ⟨fun pins s σ H Q I ⟨ρ, G, E, F, st, q⟩ => (po_some h).run pins s σ H Q I (bindE st q fun d E1 v F1 H1 st1 s1 r1 q1 => by
  cases d with
  | int i =>
    obtain rfl : v = .int i := r1
    exact ⟨i, rfl, q1 (some i) F1 H1 st1 (Same.refl _) rfl⟩
  | _ => exact q1.elim)⟩
def cutL {α : Type} (xs : List α) (lo hi : Option Int) : List α := (xs.drop (HT.sIx xs.length 0 lo)).take (HT.sIx xs.length xs.length hi - HT.sIx xs.length 0 lo)
theorem cutL_rep {ds : List D} {xs : List V} (r : RepL g F ds xs) (lo hi : Option Int) : RepL g F (cutL ds lo hi) (cutV xs lo hi) := by
  unfold cutL cutV
  rw [← r.length]
  exact (r.drop _).take _
def oSl (d : D) (lo hi : Option Int) : Option D := match d with
  | .tup ds => some (.tup (cutL ds lo hi))
  | .lst ds => some (.lst (cutL ds lo hi))
  | .scr ns => some (.lst (cutL (ns.map .int) lo hi))
  | .str z => if z.length ≤ sizeLine then some (.str (cutS z lo hi)) else none
  | _ => none
def rSlAll (K : PySem.W.Frag) : V → Option Int → Option Int → Hp → VK → Prop := fun x lo hi H Q => (rSlA K x lo hi H Q ∨ rSlL K x lo hi H Q) ∨ rSlS x lo hi H Q
theorem slr_all : SlR X (rSlAll X.K) := (sl_tupA.or sl_list).or sl_str
theorem oSl_ok {d z : D} {v : V} {lo hi : Option Int} {Q : VK} (sf : Same F H) (rd : RepH g F H d v) (ho : oSl d lo hi = some z) (k : ∀ w F' H', Grow g F H F' H' → Rep g F' z w → Q w H') : rSlAll g.K v lo hi H Q := by
  cases d with
  | tup ds =>
    cases ho
    have rd' : Rep g F (.tup ds) v := by rcases rd with h | ⟨_, _, _, _, h⟩; exact h; exact h.elim
    obtain ⟨p, xs, rfl, hx, rl⟩ := rd.tup sf
    refine .inl (.inl ⟨p, xs, rfl, hx, fun hw => ?_, fun _ l hl => ?_⟩)
    · have e : cutL ds lo hi = ds := by
        unfold cutL
        rw [rl.length, hw.1, hw.2, List.drop_zero, Nat.sub_zero]
        exact List.take_of_length_le (by rw [rl.length]; exact Nat.le_refl _)
      rw [e] at k
      exact k _ _ _ .refl rd'
    · exact k _ _ _ (.new _ sf hl) ⟨l, _, rfl, .of upd_same, (cutL_rep rl lo hi).mono (Same.new (sf.free hl))⟩
  | lst ds =>
    cases ho
    obtain ⟨p, xs, rfl, hx, rl⟩ := rd.lst sf
    exact .inl (.inr ⟨p, xs, rfl, .of hx, fun l hl => k _ _ _ (.new _ sf hl) ⟨l, _, rfl, upd_same, (cutL_rep rl lo hi).mono (Same.new (sf.free hl))⟩⟩)
  | scr ns =>
    cases ho
    obtain ⟨p, rfl, hx⟩ := rd.scr sf
    exact .inl (.inr ⟨p, _, rfl, hx, fun l hl => k _ _ _ (.new _ sf hl) ⟨l, _, rfl, upd_same, (cutL_rep (RepL.ints ns) lo hi).mono (Same.new (sf.free hl))⟩⟩)
  | str z =>
    obtain ⟨hl, rfl⟩ := iteSome ho
    rw [rd.str]
    exact .inr ⟨z, rfl, hl, k _ _ _ .refl rfl⟩
  | _ => cases ho
def resSl (lo hi : Option Int) (a : Ar) (E : Nv) : R D := match a.get E with
  | none => .bad
  | some d => R.some (oSl d lo hi) E
def fSl (fa : Nv → R Ar) (fl fh : Nv → R (Option Int)) : Nv → R D := fun E => (fa E).bind fun a E1 => (fl E1).bind fun lo E2 => (fh E2).bind fun hi E3 => resSl lo hi a E3
theorem fe_sl {fa : Nv → R Ar} {fl fh : Nv → R (Option Int)} (hK : X.K = g.K) (h : PE X e (tSl (rSlAll X.K) (tG g W (relA g) fa) (tG g W relP fl) (tG g W relP fh))) : FE X g W e (fSl fa fl fh) := peImp h fun σ H Q ⟨ρ, G, E, F, st, q⟩ =>
  bindE st q fun a E1 v F1 H1 st1 s1 r1 q1 => bindE st1 q1 fun lo E2 lo' F2 H2 st2 s2 r2 q2 => bindE st2 q2 fun hi E3 hi' F3 H3 st3 s3 r3 q3 => by
    obtain rfl : lo = lo' := r2
    obtain rfl : hi = hi' := r3
    unfold resSl at q3
    cases z : a.get E3 with
    | none => simp only [z] at q3; exact q3.elim
    | some d =>
      simp only [z] at q3
      cases z2 : oSl d lo hi with
      | none => simp only [z2, R.some] at q3; exact q3.elim
      | some y =>
        simp only [z2, R.some] at q3
        rw [hK]
        exact oSl_ok (g := g) st3.sf (ar_ok st3 (r1.mono (s2.trans s3)) z) z2 fun w F' H' gr r => q3 w F' H' (gr.2 _ _ _ _ st3) gr.1 r
/-- a slice of a list, a new list -/
def resSlN (lo hi : Option Int) (a : Ar) (E : Nv) : R D := match a.get E with
  | some (.lst ds) => .val (.lst (cutL ds lo hi)) E
  | some (.scr ns) => .val (.lst (cutL (ns.map .int) lo hi)) E
  | _ => .bad
def fSlN (fa : Nv → R Ar) (fl fh : Nv → R (Option Int)) : Nv → R D := fun E => (fa E).bind fun a E1 => (fl E1).bind fun lo E2 => (fh E2).bind fun hi E3 => resSlN lo hi a E3
theorem fn_sl {fa : Nv → R Ar} {fl fh : Nv → R (Option Int)} (hK : X.K = g.K) (h : PE X e (tSl (rSlL X.K) (tG g W (relA g) fa) (tG g W relP fl) (tG g W relP fh))) : FN X g W e (fSlN fa fl fh) := peImp h fun σ H Q ⟨ρ, G, E, F, st, q⟩ =>
  bindN st q fun a E1 v F1 H1 st1 s1 r1 q1 => bindN st1 q1 fun lo E2 lo' F2 H2 st2 s2 r2 q2 => bindN st2 q2 fun hi E3 hi' F3 H3 st3 s3 r3 q3 => by
    obtain rfl : lo = lo' := r2
    obtain rfl : hi = hi' := r3
    unfold resSlN at q3
    cases z : a.get E3 with
    | none => simp only [z] at q3; exact q3.elim
    | some d =>
      simp only [z] at q3
      have rd := ar_ok st3 (r1.mono (s2.trans s3)) z
      rw [hK]
      cases d with
      | lst ds =>
        obtain ⟨p, xs, rfl, hx, rl⟩ := rd.lst st3.sf
        exact ⟨p, xs, rfl, .of hx, fun l hl => q3 l _ F3 _ (st3.temp hl _) (st3.fG hl) ⟨_, rfl, cutL_rep rl lo hi⟩ (Same.refl _)⟩
      | scr ns =>
        obtain ⟨p, rfl, hx⟩ := rd.scr st3.sf
        exact ⟨p, _, rfl, hx, fun l hl => q3 l _ F3 _ (st3.temp hl _) (st3.fG hl) ⟨_, rfl, cutL_rep (RepL.ints ns) lo hi⟩ (Same.refl _)⟩
      | _ => exact q3.elim

/-! ## what is walked -/
/-- a list, a tuple, a text -/
def iAny (K : PySem.W.Frag) (tl : TE) : TI := fun σ H R => tl σ H fun x H1 => (∃ a xs, x = .ref a ∧ SqL K H1 a xs ∧ R (Itl K a) H1) ∨ (∃ a xs, x = .ref a ∧ SqT K H1 a xs ∧ R (Itt K a) H1) ∨ ∃ z, x = .str z ∧ R (Its z) H1
theorem pi_any {tg l : Expr} {tl : TE} (hl : PE X l tl) : PI X tg l (iAny X.K tl) := by
  refine ⟨fun pins s σ H R I h => ?_⟩
  refine thn (hl.run pins s σ H _ I h) fun v s1 ⟨x, H1, I1, r1, q1⟩ => ?_
  rcases q1 with ⟨a, xs, e, hq, q⟩ | ⟨a, xs, e, hq, q⟩ | ⟨z, e, q⟩
  · subst e
    cases r1
    obtain ⟨its, rv, p, hz⟩ := I1.list hq
    refine wpAny_pyIter_list p.isList ?_
    refine ⟨s1.heap.objs.size, [s1.heap.objs.size], _, _, H1, rfl, I1.kept (t' := s1.toks) fun b o e => Heap.get?_push_of_some _ e, turn_list a _, ⟨_, Heap.get?_push_size _ rfl, rfl, rfl⟩, fun b hb => ?_, q⟩
    have e : b = s1.heap.objs.size := by simpa using hb
    subst e
    exact I1.fpOk (Nat.le_refl _) (I1.hok.fresh (Nat.le_refl _))
  · subst e
    cases r1
    obtain ⟨its, rv, p, hz⟩ := I1.tuple hq
    refine wpAny_pyIter_tuple (show s1.heap.IsTuple a its.toArray from p) ?_
    refine ⟨s1.heap.objs.size, [s1.heap.objs.size], _, _, H1, rfl, I1.kept (t' := s1.toks) fun b o e => Heap.get?_push_of_some _ e, turn_tuple a _, ⟨_, Heap.get?_push_size _ rfl, rfl, rfl⟩, fun b hb => ?_, q⟩
    have e : b = s1.heap.objs.size := by simpa using hb
    subst e
    exact I1.fpOk (Nat.le_refl _) (I1.hok.fresh (Nat.le_refl _))
  · subst e
    obtain ⟨t, rfl⟩ := r1
    cases ha : z.cps.all (· < 128)
    · exact wpAny_pyIter_wide ha (pi_one (tk := s1.toks) I1 _ (turn_str _ z t "str_iterator" (.inr rfl)) ⟨_, Heap.get?_push_size _ rfl, rfl, rfl⟩ q)
    · exact wpAny_pyIter_ascii ha (pi_one (tk := s1.toks) I1 _ (turn_str _ z t "str_ascii_iterator" (.inl rfl)) ⟨_, Heap.get?_push_size _ rfl, rfl, rfl⟩ q)
def itAny : D → Option (List D)
  | .lst ds => some ds
  | .tup ds => some ds
  | .scr ns => some (ns.map .int)
  | .str z => some (z.cps.toList.map fun c => .str ⟨#[c]⟩)
  | _ => none
theorem RepL.at {ds : List D} {xs : List V} {i : Nat} {x : V} : ∀ {ds : List D} {xs : List V} {i : Nat} {x : V}, RepL g F ds xs → xs[i]? = some x → ∃ d, ds[i]? = some d ∧ Rep g F d x := fun {ds xs i x} r h => by
  have hi : i < ds.length := by rw [r.length]; exact (List.getElem?_eq_some_iff.mp h).1
  obtain ⟨v, a, b⟩ := r.get (List.getElem?_eq_getElem hi)
  rw [h] at a; cases a
  exact ⟨_, List.getElem?_eq_getElem hi, b⟩
theorem walks_l {a : Addr} {ds : List D} {xs : List V} (h : SqL g.K F a xs) (r : RepL g F ds xs) : Walks g F (Itl g.K a) ds where
  goes := fun i H F2 s1 s2 hi => walk_list.goes i H (by rw [← r.length]; exact hi) ((s1.trans s2).seq h)
  stops := fun H F2 s1 s2 => by rw [r.length]; exact walk_list.stops H ((s1.trans s2).seq h)
  yields := fun i H F2 x H' s1 s2 hi y => by
    obtain ⟨e, hx⟩ := walk_list.yields i H x H' (by rw [← r.length]; exact hi) ((s1.trans s2).seq h) y
    obtain ⟨d, a, b⟩ := RepL.at (ds := ds) (xs := xs) (i := i) (x := x) r hx
    subst e
    exact ⟨d, F2, a, .refl, b.mono s1⟩
theorem walks_t {a : Addr} {ds : List D} {xs : List V} (h : SqT g.K F a xs) (r : RepL g F ds xs) : Walks g F (Itt g.K a) ds where
  goes := fun i H F2 s1 s2 hi => walk_tup.goes i H (by rw [← r.length]; exact hi) (same_t (s1.trans s2) h)
  stops := fun H F2 s1 s2 => by rw [r.length]; exact walk_tup.stops H (same_t (s1.trans s2) h)
  yields := fun i H F2 x H' s1 s2 hi y => by
    obtain ⟨e, hx⟩ := walk_tup.yields i H x H' (by rw [← r.length]; exact hi) (same_t (s1.trans s2) h) y
    obtain ⟨d, a, b⟩ := RepL.at (ds := ds) (xs := xs) (i := i) (x := x) r hx
    subst e
    exact ⟨d, F2, a, .refl, b.mono s1⟩
theorem walks_s {z : Str} : Walks g F (Its z) (z.cps.toList.map fun c => D.str ⟨#[c]⟩) where
  goes := fun i H F2 s1 s2 hi => walk_str.goes i H (by simpa using hi) trivial
  stops := fun H F2 s1 s2 => by rw [List.length_map, Array.length_toList]; exact walk_str.stops H trivial
  yields := fun i H F2 x H' s1 s2 hi y => by
    obtain ⟨e, c, hc, rfl⟩ := walk_str.yields i H x H' (by simpa using hi) trivial y
    subst e
    exact ⟨.str ⟨#[c]⟩, F2, by rw [List.getElem?_map, Array.getElem?_toList, hc]; rfl, .refl, rfl⟩
theorem walks_r {lo : Int} {n : Nat} : Walks g F (Itr lo n) ((List.range n).map fun (i : Nat) => D.int (lo + i)) where
  goes := fun i H F2 s1 s2 hi => walk_range.goes i H (by simpa using hi) trivial
  stops := fun H F2 s1 s2 => by rw [List.length_map, List.length_range]; exact walk_range.stops H trivial
  yields := fun i H F2 x H' s1 s2 hi y => by
    have hi' : i < n := by simpa using hi
    obtain ⟨e, rfl⟩ := walk_range.yields i H x H' hi' trivial y
    subst e
    exact ⟨.int (lo + i), F2, by simp [hi'], .refl, rfl⟩
/-- new pairs -/
theorem walks_pair {J : It} {n : Nat} {Gw : Hp → Prop} {fx fy : Nat → Option V} {ds : List D} (w : Walk J n Gw (YPair fx fy)) (hn : n = ds.length) (hG : ∀ H F2, Same F F2 → Same F2 H → Gw H)
    (hd : ∀ i x y, i < n → fx i = some x → fy i = some y → ∃ a b, ds[i]? = some (.tup [a, b]) ∧ Rep g F a x ∧ Rep g F b y) : Walks g F J ds where
  goes := fun i H F2 s1 s2 hi => w.goes i H (by rw [hn]; exact hi) (hG H F2 s1 s2)
  stops := fun H F2 s1 s2 => by rw [← hn]; exact w.stops H (hG H F2 s1 s2)
  yields := fun i H F2 x H' s1 s2 hi y => by
    obtain ⟨T, u, v, rfl, hT, rfl, e1, e2⟩ := w.yields i H x H' (by rw [hn]; exact hi) (hG H F2 s1 s2) y
    obtain ⟨a, b, h1, h2, h3⟩ := hd i u v (by rw [hn]; exact hi) e1 e2
    have sn : Same F2 (upd F2 T (.tup [u, v])) := Same.new (s2.free hT)
    exact ⟨_, _, h1, .new _ s2 hT, T, _, rfl, .of upd_same, ⟨u, [v], rfl, h2.mono (s1.trans sn), v, [], rfl, h3.mono (s1.trans sn), rfl⟩⟩
theorem bindI {α β : Type} {rel : Hp → L2.St → α → β → Prop} {f : Nv → R α} {k : α → Nv → R (List D)} {Q2 : It → Hp → Prop} {Q1 : β → Hp → Prop} (st : StOk g ρ G E F σ H) (h : postI g W ρ G F σ Q2 ((f E).bind k))
    (cont : ∀ a E1 b F1 H1, StOk g ρ G E1 F1 σ H1 → Same F F1 → rel F1 σ a b → postI g W ρ G F1 σ Q2 (k a E1) → Q1 b H1) : tG g W rel f σ H Q1 := by
  have mono : ∀ {F1 : Hp}, Same F F1 → ∀ {r : R (List D)}, postI g W ρ G F σ Q2 r → postI g W ρ G F1 σ Q2 r := fun {F1} s {r} h => by
    cases r with
    | val ds E' => exact fun J F' H' st q w => h J F' H' st (s.trans q) w
    | exc c fs E' => exact postX.mono s h
    | bad => exact h
  refine ⟨ρ, G, E, F, st, ?_⟩
  revert h
  cases f E with
  | val a E1 => exact fun h b F' H' st' s r => cont a E1 b F' H' st' s r (mono (r := k a E1) s h)
  | exc c fs E' => exact fun h => h
  | bad => exact fun h => h
def iAnyF (f : Nv → R D) : Nv → R (List D) := fun E => (f E).bind fun d E1 => R.some (itAny d) E1
theorem fi_any {tg : Expr} {f : Nv → R D} (hK : X.K = g.K) (h : PI X tg e (iAny X.K (tG g W (relD g) f))) : FI X g W tg e (iAnyF f) := piImp h fun σ H Q ⟨ρ, G, E, F, st, q⟩ =>
  bindI st q fun d E1 v F1 H1 st1 s1 r1 q1 => by
    rw [hK]
    cases d with
    | lst ds =>
      obtain ⟨a, xs, rfl, hx, rl⟩ := r1
      exact .inl ⟨a, xs, rfl, .of (st1.sf _ _ hx), q1 _ F1 H1 st1 (Same.refl _) (walks_l (.of hx) rl)⟩
    | tup ds =>
      obtain ⟨a, xs, rfl, hx, rl⟩ := r1
      exact .inr (.inl ⟨a, xs, rfl, same_t st1.sf hx, q1 _ F1 H1 st1 (Same.refl _) (walks_t hx rl)⟩)
    | scr ns =>
      obtain ⟨a, rfl, hx⟩ := r1
      exact .inl ⟨a, _, rfl, st1.sf.seq hx, q1 _ F1 H1 st1 (Same.refl _) (walks_l hx (RepL.ints ns))⟩
    | str z =>
      obtain rfl : v = .str z := r1
      exact .inr (.inr ⟨z, rfl, q1 _ F1 H1 st1 (Same.refl _) walks_s⟩)
    | _ => exact q1.elim
/-- the ints from lo to hi - 1 -/
def rangeD (lo : Int) (n : Nat) : List D := (List.range n).map fun (i : Nat) => D.int (lo + i)
open Classical in
noncomputable def itR : List D → Option (List D)
  | [.int j] => if B62 j then some (rangeD 0 j.toNat) else none
  | [.int i, .int j] => if B62 i ∧ B62 j then some (rangeD i (j - i).toNat) else none
  | _ => none
noncomputable def iRng (fs : Nv → R (List Ar)) : Nv → R (List D) := fun E => (fs E).bind fun as E1 => match valsOf as with
  | some ds => R.some (itR ds) E1
  | none => .bad
open Classical in
theorem fi_range1 {tg : Expr} {f : Nv → R Ar} (h : PI X tg e (iRng1 (tG g W (relAs g) (fAs [f])))) : FI X g W tg e (iRng (fAs [f])) := piImp h fun σ H Q ⟨ρ, G, E, F, st, q⟩ => by
  refine ⟨ρ, G, E, F, st, ?_⟩
  unfold iRng at q
  revert q
  cases z0 : fAs [f] E with
  | exc c fs E' => exact fun q => q
  | bad => exact fun q => q
  | val as E1 =>
    have la := fAs_len z0
    intro q vs F1 H1 st1 s1 r1
    have q : postI g W ρ G F σ Q (match valsOf as with | some ds => R.some (itR ds) E1 | none => .bad) := q
    cases z : valsOf as with
    | none => simp only [z] at q; exact q.elim
    | some ds =>
      simp only [z] at q
      have rl := valsOf_ok r1 z
      have ld : ds.length = 1 := by rw [rl.length, ← r1.length, la]; rfl
      match ds, ld with
      | [d], _ =>
        obtain ⟨x, rfl, rx⟩ : ∃ x, vs = [x] ∧ Rep g F1 d x := by
          obtain ⟨x, xs, rfl, a, b⟩ := rl
          cases (show xs = [] from b)
          exact ⟨x, rfl, a⟩
        cases d with
        | int j =>
          obtain rfl : x = .int j := rx
          have q : postI g W ρ G F σ Q (R.some (if B62 j then some (rangeD 0 j.toNat) else none) E1) := q
          by_cases hc : B62 j
          · rw [if_pos hc] at q
            exact ⟨j, rfl, hc.1, hc.2, q _ F1 H1 st1 s1 walks_r⟩
          · rw [if_neg hc] at q; exact q.elim
        | _ => exact q.elim
open Classical in
theorem fi_range2 {tg : Expr} {f f2 : Nv → R Ar} (h : PI X tg e (iRng2 (tG g W (relAs g) (fAs [f, f2])))) : FI X g W tg e (iRng (fAs [f, f2])) := piImp h fun σ H Q ⟨ρ, G, E, F, st, q⟩ => by
  refine ⟨ρ, G, E, F, st, ?_⟩
  unfold iRng at q
  revert q
  cases z0 : fAs [f, f2] E with
  | exc c fs E' => exact fun q => q
  | bad => exact fun q => q
  | val as E1 =>
    have la := fAs_len z0
    intro q vs F1 H1 st1 s1 r1
    have q : postI g W ρ G F σ Q (match valsOf as with | some ds => R.some (itR ds) E1 | none => .bad) := q
    cases z : valsOf as with
    | none => simp only [z] at q; exact q.elim
    | some ds =>
      simp only [z] at q
      have rl := valsOf_ok r1 z
      have ld : ds.length = 2 := by rw [rl.length, ← r1.length, la]; rfl
      match ds, ld with
      | [d, d2], _ =>
        obtain ⟨x, y, rfl, rx, ry⟩ : ∃ x y, vs = [x, y] ∧ Rep g F1 d x ∧ Rep g F1 d2 y := by
          obtain ⟨x, xs, rfl, a, y, ys, rfl, b, c⟩ := rl
          cases (show ys = [] from c)
          exact ⟨x, y, rfl, a, b⟩
        cases d with
        | int i =>
          cases d2 with
          | int j =>
            obtain rfl : x = .int i := rx
            obtain rfl : y = .int j := ry
            have q : postI g W ρ G F σ Q (R.some (if B62 i ∧ B62 j then some (rangeD i (j - i).toNat) else none) E1) := q
            by_cases hc : B62 i ∧ B62 j
            · rw [if_pos hc] at q
              exact ⟨i, j, rfl, ⟨hc.1.1, hc.1.2, hc.2.1, hc.2.2⟩, q _ F1 H1 st1 s1 walks_r⟩
            · rw [if_neg hc] at q; exact q.elim
          | _ => exact q.elim
        | _ => exact q.elim
/-- zip of two tuples, of two lists -/
def zipD (a b : List D) : List D := (a.zip b).map fun p => .tup [p.1, p.2]
def itZ : List D → Option (List D)
  | [.lst a, .lst b] => some (zipD a b)
  | [.tup a, .tup b] => some (zipD a b)
  | _ => none
def iZip (fs : Nv → R (List Ar)) : Nv → R (List D) := fun E => (fs E).bind fun as E1 => match valsOf as with
  | some ds => R.some (itZ ds) E1
  | none => .bad
theorem zipD_get {a b : List D} {xs ys : List V} (ra : RepL g F a xs) (rb : RepL g F b ys) (i : Nat) (x y : V) (hx : xs[i]? = some x) (hy : ys[i]? = some y) : ∃ d e, (zipD a b)[i]? = some (.tup [d, e]) ∧ Rep g F d x ∧ Rep g F e y := by
  obtain ⟨d, h1, r1⟩ := RepL.at (ds := a) (xs := xs) (i := i) (x := x) ra hx
  obtain ⟨e, h2, r2⟩ := RepL.at (ds := b) (xs := ys) (i := i) (x := y) rb hy
  refine ⟨d, e, ?_, r1, r2⟩
  unfold zipD
  rw [List.getElem?_map, List.getElem?_zip_eq_some (z := (d, e)) |>.mpr ⟨h1, h2⟩]
  rfl
theorem walk_zipT {K : PySem.W.Frag} {a b : Addr} {xs ys : List V} {n : Nat} (hn : n = min xs.length ys.length) : Walk (RZ.ItzT K a b) n (fun H => SqT K H a xs ∧ SqT K H b ys) (YPair (fun i => xs[i]?) (fun i => ys[i]?)) := by
  subst hn
  refine ⟨fun i _ hi q => ?_, fun _ q => ⟨xs, ys, q.1, q.2, by omega⟩, fun i H v H' _ q y => ?_⟩
  · have h1 : i < xs.length := by omega
    have h2 : i < ys.length := by omega
    exact ⟨xs, ys, xs[i], ys[i], q.1, q.2, by simp [h1], by simp [h2]⟩
  · obtain ⟨T, x, z, h1, h2, h3, h4, h5⟩ := y
    exact ⟨T, x, z, h1, h2, h3, h4 xs q.1, h5 ys q.2⟩
theorem fi_zip {tg : Expr} {fs : Nv → R (List Ar)} (hK : X.K = g.K) (h : PI X tg e (RZ.iZipA X.K (tG g W (relAs g) fs))) : FI X g W tg e (iZip fs) := piImp h fun σ H Q ⟨ρ, G, E, F, st, q⟩ =>
  bindI st q fun as E1 vs F1 H1 st1 s1 r1 q1 => by
    rw [hK]
    cases z : valsOf as with
    | none => simp only [z] at q1; exact q1.elim
    | some ds =>
      simp only [z] at q1
      have rl := valsOf_ok r1 z
      unfold itZ at q1
      split at q1
      · rename_i a b
        obtain ⟨x, xs, rfl, ⟨p, us, rfl, hu, ru⟩, y, ys, rfl, ⟨p', us', rfl, hu', ru'⟩, e0⟩ := rl
        cases (show ys = [] from e0)
        refine ⟨p, p', us, us', rfl, .inl ⟨.of (st1.sf _ _ hu), .of (st1.sf _ _ hu'), q1 _ F1 H1 st1 (Same.refl _) ?_⟩⟩
        exact walks_pair (walk_zip rfl) (by simp [zipD, ru.length, ru'.length]) (fun H F2 a b => ⟨.of (b _ _ (a _ _ hu)), .of (b _ _ (a _ _ hu'))⟩) fun i x y _ hx hy => zipD_get ru ru' i x y hx hy
      · rename_i a b
        obtain ⟨x, xs, rfl, ⟨p, us, rfl, hu, ru⟩, y, ys, rfl, ⟨p', us', rfl, hu', ru'⟩, e0⟩ := rl
        cases (show ys = [] from e0)
        refine ⟨p, p', us, us', rfl, .inr ⟨same_t st1.sf hu, same_t st1.sf hu', q1 _ F1 H1 st1 (Same.refl _) ?_⟩⟩
        exact walks_pair (walk_zipT rfl) (by simp [zipD, ru.length, ru'.length]) (fun H F2 a b => ⟨same_t (a.trans b) hu, same_t (a.trans b) hu'⟩) fun i x y _ hx hy => zipD_get ru ru' i x y hx hy
      · exact q1.elim

/-! ## attributes -/
def lookD : Str → List Str → List D → Option D
  | f, n :: ns, d :: ds => if f = n then some d else lookD f ns ds
  | _, _, _ => none
theorem lookD_ok {f : Str} : ∀ {ns : List Str} {ds : List D} {xs : List V} {d : D}, RepL g F ds xs → lookD f ns ds = some d → ∃ v, (ns.zip xs).lookup f = some v ∧ Rep g F d v
  | [], _, _, _, _, h => by simp [lookD] at h
  | n :: ns, [], _, _, _, h => by simp [lookD] at h
  | n :: ns, d :: ds, _, _, r, h => by
    obtain ⟨x, xs, rfl, rx, rt⟩ := r
    unfold lookD at h
    by_cases e : f = n
    · rw [if_pos e] at h; cases h
      subst e
      exact ⟨x, by simp [List.lookup], rx⟩
    · rw [if_neg e] at h
      obtain ⟨v, a, b⟩ := lookD_ok rt h
      have ne : (f == n) = false := by simpa using e
      exact ⟨v, by simp only [List.zip_cons_cons, List.lookup, ne]; exact a, b⟩
def resFld (f : Str) (a : Ar) (E : Nv) : R D := match a.get E with
  | some (.ins _ ns ds) => R.some (lookD f ns ds) E
  | _ => .bad
def fFld (f : Str) (fa : Nv → R Ar) : Nv → R D := fun E => (fa E).bind fun a E1 => resFld f a E1
theorem fe_fld {f : Str} {fa : Nv → R Ar} (hK : X.K = g.K) (hc : ∀ c, Cls g.K (g.cls c)) (hn : ∀ c, NoAttr g.K (g.cls c) f) (h : PE X e (tFld X.K (tG g W (relA g) fa) f)) : FE X g W e (fFld f fa) := peImp h fun σ H Q ⟨ρ, G, E, F, st, q⟩ =>
  bindE st q fun a E1 v F1 H1 st1 s1 r1 q1 => by
    unfold resFld at q1
    cases z : a.get E1 with
    | none => simp only [z] at q1; exact q1.elim
    | some d =>
      simp only [z] at q1
      cases d with
      | ins c ns ds =>
        simp only at q1
        cases z2 : lookD f ns ds with
        | none => simp only [z2, R.some] at q1; exact q1.elim
        | some y =>
          simp only [z2, R.some] at q1
          obtain ⟨p, dx, xs, rfl, hp, hl, rl⟩ := (ar_ok st1 r1 z).ins st1.sf
          obtain ⟨w, a1, a2⟩ := lookD_ok rl z2
          exact ⟨p, g.cls c, dx, _, w, rfl, hp, by rw [hK]; exact hc c, by rw [hK]; exact hn c, a1, q1 w F1 H1 st1 (Same.refl _) a2⟩
      | _ => exact q1.elim
def putN (f : Str) : List Str → List Str
  | [] => [f]
  | n :: ns => if n = f then n :: ns else n :: putN f ns
def putD (f : Str) (d : D) : List Str → List D → List D
  | n :: ns, x :: xs => if n = f then d :: xs else x :: putD f d ns xs
  | _, _ => [d]
theorem put_ok {f : Str} {d : D} {v : V} (rv : Rep g F d v) : ∀ {ns : List Str} {ds : List D} {xs : List V}, ns.length = xs.length → RepL g F ds xs → ∃ ys, putF f v (ns.zip xs) = (putN f ns).zip ys ∧ (putN f ns).length = ys.length ∧ RepL g F (putD f d ns ds) ys
  | [], ds, xs, hl, r => by
    have : xs = [] := List.length_eq_zero_iff.mp hl.symm
    subst this
    have : ds = [] := List.length_eq_zero_iff.mp (by rw [r.length]; rfl)
    subst this
    exact ⟨[v], rfl, rfl, v, [], rfl, rv, rfl⟩
  | n :: ns, [], xs, hl, r => by
    cases (show xs = [] from r)
    cases hl
  | n :: ns, x :: ds, _, hl, r => by
    obtain ⟨u, us, rfl, ru, rt⟩ := r
    by_cases e : n = f
    · refine ⟨v :: us, ?_, ?_, ?_⟩
      · show (if n = f then (n, v) :: ns.zip us else _) = _
        unfold putN
        rw [if_pos e, if_pos e]
        rfl
      · unfold putN; rw [if_pos e]; exact hl
      · unfold putD; rw [if_pos e]; exact ⟨v, us, rfl, rv, rt⟩
    · obtain ⟨ys, a, b, c⟩ := put_ok (f := f) (d := d) rv (ns := ns) (ds := ds) (xs := us) (by simpa using hl) rt
      refine ⟨u :: ys, ?_, ?_, ?_⟩
      · show (if n = f then _ else (n, u) :: putF f v (ns.zip us)) = _
        unfold putN
        rw [if_neg e, if_neg e, a]
        rfl
      · unfold putN; rw [if_neg e]; simp [b]
      · unfold putD; rw [if_neg e]; exact ⟨u, ys, rfl, ru, c⟩
def setFld (j : Nat) (f : Str) (d : D) (E : Nv) : R Fl := match E[j]? with
  | some s => match s.cell with
    | some (.ins c ns ds) => if ns.length < 900 then .val .nx (E.set j (s.put (.ins c (putN f ns) (putD f d ns ds)))) else .bad
    | _ => .bad
  | none => .bad
def fSetFld (j : Nat) (f : Str) (fv : Nv → R D) : Nv → R Fl := fun E => (fv E).bind fun d E1 => (fPk j E1).bind fun _ E2 => setFld j f d E2
theorem fs_setFld {j : Nat} {f : Str} {fv : Nv → R D} (hK : X.K = g.K) (hc : ∀ c, Cls g.K (g.cls c)) (hn : ∀ c, NoAttr g.K (g.cls c) f) (h : PS X st (sFld X.K (tG g W (relA g) (fPk j)) (tG g W (relD g) fv) f)) : FS X g W st (fSetFld j f fv) := psImp h fun D σ H ⟨ρ, G, E, F, st, q⟩ =>
  bindS st q fun d E1 v F1 H1 st1 s1 r1 q1 => by
    refine ⟨ρ, G, E1, F1, st1, ?_⟩
    revert q1
    cases z : fPk j E1 with
    | exc c fs E' => exact fun q1 dx F' H' st' s x => q1 dx σ F' H' st' s x
    | bad => exact fun q1 => q1
    | val a E2 =>
      obtain ⟨rfl, rfl⟩ := fPk_pk z
      intro q1 x F2 H2 st2 s2 hx
      have hx : σ[j]? = some (some x) := hx
      have q1 : postS g W ρ G F1 D (setFld j f d E2) := q1
      unfold setFld at q1
      cases z : E2[j]? with
      | none => simp only [z] at q1; exact q1.elim
      | some s =>
        simp only [z] at q1
        cases c : s.cell with
        | none => simp only [c] at q1; exact q1.elim
        | some cd =>
          simp only [c] at q1
          cases cd with
          | ins k ns ds =>
            simp only at q1
            by_cases hl : ns.length < 900
            · rw [if_pos hl] at q1
              obtain ⟨p, y, fp, _, o, hp, dx, xs, rfl, l1, rl⟩ := st2.at z c
              rw [hx] at y
              cases y
              obtain ⟨ys, a1, a2, a3⟩ := put_ok (f := f) (r1.mono s2) l1 rl
              refine ⟨p, g.cls k, dx, _, rfl, hp, by rw [hK]; exact hc k, by rw [hK]; exact hn k, ?_, ?_⟩
              · rw [List.length_zip]; omega
              · exact q1 σ F2 _ (st2.write z c hx ⟨dx, ys, by rw [a1], a2, a3⟩) s2
            · rw [if_neg hl] at q1; exact q1.elim
          | _ => exact q1.elim
end

end FL

namespace FL
open PySem PySem.Spec PyProof.Rows L2

/-! ## methods of lists -/
def mAppend : D → List D → Option (D × D)
  | .lst ds, [d] => if ds.length < sizeLine then some (.non, .lst (ds ++ [d])) else none
  | _, _ => none
def mExtend : D → List D → Option (D × D)
  | .lst ds, [.lst es] => if ds.length + es.length ≤ sizeLine then some (.non, .lst (ds ++ es)) else none
  | _, _ => none
def mPop : D → List D → Option (D × D)
  | .lst ds, [] => match ds[ds.length - 1]? with
    | some d => some (d, .lst ds.dropLast)
    | none => none
  | _, _ => none
def mInsert : D → List D → Option (D × D)
  | .lst ds, [.int i, d] => if ds.length < sizeLine ∧ 0 ≤ i ∧ i ≤ 1000000 then some (.non, .lst (ds.take i.toNat ++ [d] ++ ds.drop i.toNat)) else none
  | _, _ => none
def mPopAt : D → List D → Option (D × D)
  | .lst ds, [.int i] => if 0 ≤ i ∧ i ≤ 1000000 then (match ds[i.toNat]? with
    | some d => some (d, .lst (ds.eraseIdx i.toNat))
    | none => none) else none
  | _, _ => none
section
variable {g : Gm}
theorem RepL.eraseIdx {F : Hp} : ∀ {ds : List D} {vs : List V} (i : Nat), RepL g F ds vs → RepL g F (ds.eraseIdx i) (vs.eraseIdx i)
  | [], _, _, h => by cases (show _ = [] from h); exact rfl
  | _ :: _, _, 0, h => by
    obtain ⟨x, xs, rfl, r, t⟩ := h
    exact t
  | _ :: _, _, i + 1, h => by
    obtain ⟨x, xs, rfl, r, t⟩ := h
    exact ⟨x, _, rfl, r, RepL.eraseIdx i t⟩
theorem mtok_insert : MtOk g (fun x vs H Q => ∃ (l : Addr) (xs : List V) (i : Int) (y : V), x = .ref l ∧ vs = [.int i, y] ∧ H l = some (.lst xs) ∧ xs.length < sizeLine ∧ 0 ≤ i ∧ i < 2 ^ 63 ∧ Q .non (upd H l (.lst (xs.take i.toNat ++ [y] ++ xs.drop i.toNat)))) mInsert := by
  intro F H p ob vs d z d' ds Q sf fp hp ow r ho k
  unfold mInsert at ho
  split at ho
  · rename_i es i x
    obtain ⟨⟨hl, h0, h1⟩, e⟩ := iteSome ho
    cases e
    obtain ⟨xs, rfl, rl⟩ := ow
    obtain ⟨u, us, rfl, ru, y, ys, rfl, ry, e0⟩ := r
    cases (show ys = [] from e0)
    obtain rfl : u = .int i := ru
    exact ⟨p, xs, i, y, rfl, rfl, hp, by rw [← rl.length]; exact hl, h0, by omega, k _ _ ⟨_, rfl, ((rl.take _).append (RepL.cons ry RepL.nil)).append (rl.drop _)⟩ rfl⟩
  · cases ho
theorem mtok_popAt : MtOk g rPopAt mPopAt := by
  intro F H p ob vs d z d' ds Q sf fp hp ow r ho k
  unfold mPopAt at ho
  split at ho
  · rename_i es i
    split at ho
    · rename_i hi
      split at ho
      · rename_i x hx
        cases ho
        obtain ⟨xs, rfl, rl⟩ := ow
        obtain ⟨u, us, rfl, ru, e0⟩ := r
        cases (show us = [] from e0)
        obtain rfl : u = .int i := ru
        obtain ⟨v, a, b⟩ := rl.get hx
        have hlt := (List.getElem?_eq_some_iff.mp a).1
        refine ⟨p, xs, i, i.toNat, v, rfl, rfl, hp, by omega, by omega, ?_, a, k _ _ ⟨_, rfl, rl.eraseIdx _⟩ b⟩
        have e1 : ¬ i < 0 := by omega
        have e2 : (decide (0 ≤ i) && decide (i < (xs.length : Int))) = true := by simp only [Bool.and_eq_true, decide_eq_true_eq]; omega
        unfold seqIndex?
        simp only [if_neg e1, e2, if_true]
      · cases ho
    · cases ho
  · cases ho
theorem mtok_append : MtOk g rAppend mAppend := by
  intro F H p ob vs d z d' ds Q sf fp hp ow r ho k
  unfold mAppend at ho
  split at ho
  · rename_i es x
    obtain ⟨hl, e⟩ := iteSome ho
    cases e
    obtain ⟨xs, rfl, rl⟩ := ow
    obtain ⟨y, ys, rfl, ry, e0⟩ := r
    cases (show ys = [] from e0)
    exact ⟨p, xs, y, rfl, rfl, hp, by rw [← rl.length]; exact hl, k _ _ ⟨_, rfl, rl.append ⟨y, [], rfl, ry, rfl⟩⟩ rfl⟩
  · cases ho
theorem mtok_extend : MtOk g rExtend mExtend := by
  intro F H p ob vs d z d' ds Q sf fp hp ow r ho k
  unfold mExtend at ho
  split at ho
  · rename_i es fs
    obtain ⟨hl, e⟩ := iteSome ho
    cases e
    obtain ⟨xs, rfl, rl⟩ := ow
    obtain ⟨y, ys, rfl, ⟨q, us, rfl, hq, ru⟩, e0⟩ := r
    cases (show ys = [] from e0)
    exact ⟨p, q, xs, us, rfl, rfl, hp, sf _ _ hq, by rw [← rl.length, ← ru.length]; exact hl, k _ _ ⟨_, rfl, rl.append ru⟩ rfl⟩
  · cases ho
theorem mtok_pop : MtOk g rPop mPop := by
  intro F H p ob vs d z d' ds Q sf fp hp ow r ho k
  unfold mPop at ho
  split at ho
  · rename_i es
    split at ho
    · rename_i x hx
      cases ho
      obtain ⟨xs, rfl, rl⟩ := ow
      cases (show vs = [] from r)
      obtain ⟨v, a, b⟩ := rl.get hx
      exact ⟨p, xs, v, rfl, rfl, hp, by rw [← rl.length]; exact a, k _ _ ⟨_, rfl, rl.dropLast⟩ b⟩
    · cases ho
  · cases ho
end

/-! ## instances -/
section
variable {g : Gm} {ρ : Nat → Addr} {G F H : Hp} {E : Nv} {σ : L2.St} {W : WX} {X : Cx} {e : Expr}
theorem StOk.junk {p : Addr} (st : StOk g ρ G E F σ H) (h : H p = none) (o : HO) : StOk g ρ G E F σ (upd H p o) := (st.temp h o).untemp (st.fG h)
theorem StOk.push {p : Addr} {o : HO} {d : D} (st : StOk g ρ (upd G p o) E F σ H) (gn : G p = none) (ow : OwnO g F d o) : StOk g ρ G (E ++ [.own d]) F (σ ++ [some (.ref p)]) H := by
  have s1 : StOk g ρ (upd G p o) (E ++ [.no]) F (σ ++ [none]) H := st.reslot (by simp [st.len]) fun i s h => by
    by_cases hi : i < E.length
    · rw [List.getElem?_append_left hi] at h
      exact .inl ⟨h, List.getElem?_append_left (by rw [← st.len]; exact hi)⟩
    · rw [List.getElem?_append_right (by omega)] at h
      have : s ∈ [Sl.no] := List.mem_of_getElem? h
      exact .inr (.inl (by simpa using this))
  have s2 := s1.take (i := E.length) gn ow
  have e1 : (E ++ [Sl.no]).set E.length (.own d) = E ++ [.own d] := by simp
  have e2 : (σ ++ [none]).set E.length (some (.ref p)) = σ ++ [some (.ref p)] := by rw [st.len]; simp
  rw [e1, e2] at s2
  exact s2
theorem StOk.popSlot {E2 : Nv} {x : Option V} {n : Nat} (st : StOk g ρ G E2 F (σ ++ [x]) H) (hn : n = σ.length) : StOk g ρ G (E2.take n) F σ H := st.reslot (by rw [List.length_take, st.len, List.length_append]; simp; omega) fun i s h => by
  have hi : i < n := by
    have := (List.getElem?_eq_some_iff.mp h).1
    rw [List.length_take] at this
    omega
  rw [List.getElem?_take_of_lt hi] at h
  exact .inl ⟨h, (List.getElem?_append_left (by omega)).symm⟩
theorem ArsOk.push {x : Option V} : ∀ {as : List Ar} {vs : List V}, ArsOk g F σ as vs → ArsOk g F (σ ++ [x]) as vs
  | [], _, h => h
  | a :: as, _, ⟨v, vs, e, r, t⟩ => ⟨v, vs, e, by
    cases a with
    | v d => exact r
    | pk i =>
      have r : σ[i]? = some (some v) := r
      show (σ ++ [x])[i]? = some (some v)
      rw [List.getElem?_append_left (List.getElem?_eq_some_iff.mp r).1]
      exact r, t.push⟩
def resMk (c : Nat) (fn : Fn) (ars : List Ar) (E : Nv) : R D := match resC fn (.pk E.length :: ars) (E ++ [.own (.ins c [] [])]) with
  | .val .non E2 => match E2[E.length]? with
    | some (.own d) => .val d (E2.take E.length)
    | _ => .bad
  | .exc k f E2 => .exc k f (E2.take E.length)
  | _ => .bad
def fMake (c : Nat) (fn : Fn) (fs : Nv → R (List Ar)) : Nv → R D := fun E => (fs E).bind fun as E1 => resMk c fn as E1
def tMakeS (C : Addr) (sp : Sp) (Ew : L2.St → XK) (t : TA) : TE := fun σ H Q => t σ H fun vs H1 => ∀ x dx, H1 x = none → H1 dx = none → dx ≠ x →
  sp (.ref x :: vs) (upd (upd H1 dx (.own x)) x (.ins C dx [])) (fun v H2 => v = .non ∧ Q (.ref x) H2) (Ew σ)
theorem run_makeS {CX : CXT} {k : Nat} {f C : Addr} {fd : FuncData} {ps : List Str} {sp : Sp} {Ew : L2.St → XK} {pins : List (Addr × Obj)} {s : Shared} {Q : VK} {us : List Value} {vs : List V} (M : Mk X.K C f) (Fo : FnOk X.prog X.w X.K X.mg X.base CX k f fd ps sp) (hr : Room (k + 1) X.A) (hb : Binds X.K fd ps [])
    (hx : PassesAt CX X σ (Ew σ)) (I : Inv X pins σ H s) (r : Vals vs us)
    (h : ∀ x dx, H x = none → H dx = none → dx ≠ x → sp (.ref x :: vs) (upd (upd H dx (.own x)) x (.ins C dx [])) (fun v H2 => v = .non ∧ Q (.ref x) H2) (Ew σ)) :
    wpAny (model X.prog X.w) X.A (call (.ref C) us) (EP X pins σ Q) X.xe s := by
  have hq := h (s.heap.objs.size + 1) s.heap.objs.size (I.hok.fresh (Nat.le_succ _)) (I.hok.fresh (Nat.le_refl _)) (Nat.ne_of_lt (Nat.lt_succ_self _))
  have I2 := Inv.made (C := C) I
  have r2 : Vals (V.ref (s.heap.objs.size + 1) :: vs) (Value.ref (s.heap.objs.size + 1) :: us) := .cons rfl r
  have hl : (Value.ref (s.heap.objs.size + 1) :: us).length = ps.length := by
    have e := r2.length
    rw [Fo.len _ _ _ _ hq] at e
    exact e.symm
  have b := hb _ (Value.ref (s.heap.objs.size + 1) :: us) I2.kIn (by rw [List.append_nil]; exact hl)
  rw [List.append_nil] at b
  refine wpAny_call (make_map (f := f) I.kIn M.makes M.init (beq_iff_eq.mp M.fn) (codeAny_mono (Fo.run _ X.stack _ _ ⟨Value.ref (s.heap.objs.size + 1) :: us, []⟩ (Value.ref (s.heap.objs.size + 1) :: us) _ _ (Ew σ) (hr.make C us [])
    (I2.env0.make C us []) b r2 hq) fun r s' hq' => ?_))
  cases r with
  | error e => exact hx pins _ _ e s' I2 hq'
  | ok fl =>
    cases fl with
    | ret u =>
      obtain ⟨v, H', I3, rv, ev, q3⟩ := I2.after hq'
      subst ev
      exact ⟨rv, ⟨V.ref (s.heap.objs.size + 1), H', I3, rfl, q3⟩⟩
    | next => exact False.elim hq'
    | brk => exact False.elim hq'
    | cont => exact False.elim hq'
theorem pe_makeS {CX : CXT} {k : Nat} {f C : Addr} {fd : FuncData} {ps : List Str} {sp : Sp} {Ew : L2.St → XK} {x : Str} {p pos : Pos} {es : List Expr} {t : TA} (M : Mk X.K C f) (Fo : FnOk X.prog X.w X.K X.mg X.base CX k f fd ps sp) (hr : Room (k + 1) X.A) (hg : Gl X x) (hm : X.mg x = some (.ref C)) (hb : Binds X.K fd ps []) (hx : ∀ σ, PassesAt CX X σ (Ew σ))
    (ha : PA X (e :: es) t) (hdb : (x == ("__debug__" : Str)) = false := by decide) (he : starEach (e :: es) X.env = (false, eval e X.env) :: starEach es X.env := by rfl) (hpl : (backTo pos (starEach es X.env)).any (·.1) = false := by rfl) :
    PE X (.Call (.Name x p) (e :: es) [] pos) (tMakeS C sp Ew t) := by
  refine ⟨fun pins s σ H Q I h => ?_⟩
  refine wpAny_Call_Name_kw (ld_glob I hg hm ?_ hdb)
  refine PySem.W.callWith_K (h₀ := X.base) I.ok.mod.kin M.kp (thn (ha.run pos pins s σ H _ I h) fun us s1 ⟨vs, H1, I1, r, q⟩ => ⟨I1.kIn, ?_⟩) he hpl
  exact run_makeS M Fo hr hb (hx σ) I1 r q
theorem resMk_ok {c n : Nat} {fn : Fn} {ars : List Ar} {vs : List V} {Q : VK} (st : StOk g ρ G E F σ H) (ra : ArsOk g F σ ars vs) (hn : vs.length + 1 = n) (q : postN g W ρ G F σ Q (resMk c fn ars E)) :
    ∀ x dx, H x = none → H dx = none → dx ≠ x → spF g n fn (.ref x :: vs) (upd (upd H dx (.own x)) x (.ins (g.cls c) dx [])) (fun v H2 => v = .non ∧ Q (.ref x) H2) (WE W σ) := by
  intro x dx hx hdx ne
  have hx' : (upd H dx (.own x)) x = none := by rw [upd_ne (Ne.symm ne)]; exact hx
  have st1 := (st.junk hdx (.own x)).temp hx' (.ins (g.cls c) dx [])
  have gx := st.fG hx
  have st2 := st1.push (d := .ins c [] []) gx ⟨dx, [], rfl, rfl, rfl⟩
  have hl : E.length = σ.length := st.len
  have ra2 : ArsOk g F (σ ++ [some (.ref x)]) (.pk E.length :: ars) (.ref x :: vs) := ⟨_, _, rfl, by show (σ ++ [some (V.ref x)])[E.length]? = _; rw [hl]; simp, ra.push⟩
  have key : spF g n fn (.ref x :: vs) (upd (upd H dx (.own x)) x (.ins (g.cls c) dx [])) (fun v H2 => v = .non ∧ Q (.ref x) H2) (WE (fun cls d _ H => W cls d σ H) (σ ++ [some (.ref x)])) := by
    refine resC_ok (W := fun cls d _ H => W cls d σ H) st2 ra2 (by simpa using hn) ?_
    unfold resMk at q
    revert q
    cases resC fn (.pk E.length :: ars) (E ++ [.own (.ins c [] [])]) with
    | bad => exact fun q => q
    | exc k f E2 => exact fun q d' F' H' st' s xr => q d' F' H' (st'.popSlot hl) s xr
    | val d E2 =>
      cases d with
      | non =>
        simp only
        cases z : E2[E.length]? with
        | none => exact fun q => q.elim
        | some s =>
          cases s with
          | own d' =>
            intro q v F' H' st' ss r
            have lk : (σ ++ [some (V.ref x)])[E.length]? = some (some (.ref x)) := by rw [hl]; simp
            obtain ⟨p, y, f1, g1, o, hp, ow⟩ := st'.at z rfl
            rw [lk] at y
            cases y
            obtain ⟨st3, gn, ow'⟩ := st'.give z rfl lk hp
            have st4 := st3.popSlot hl
            have e3 : (E2.set E.length Sl.no).take E.length = E2.take E.length := by
              rw [List.take_set_of_le (Nat.le_refl _)]
            rw [e3] at st4
            exact ⟨r, q x o F' H' st4 gn ow' ss⟩
          | _ => exact fun q => q.elim
      | _ => exact fun q => q.elim
  exact key
theorem fn_make {c n : Nat} {fn : Fn} {fs : List (Nv → R Ar)} (h : PE X e (tMakeS (g.cls c) (spF g n fn) (WE W) (tG g W (relAs g) (fAs fs)))) (hn : fs.length + 1 = n) : FN X g W e (fMake c fn (fAs fs)) := peImp h fun σ H Q ⟨ρ, G, E, F, st, q⟩ =>
  bindAN st q fun a E1 b F1 H1 la st1 s1 r1 q1 => resMk_ok st1 r1 (by rw [← r1.length, la, hn]) q1

/-! ## an own == -/
def rEqI (C : Addr) (sp : Sp) (K : PySem.W.Frag) : R2 := fun x y H Q => ∃ a dx fs t, x = .ref a ∧ H a = some (.ins C dx fs) ∧ TyX K H y t ∧ PySem.W.notFirst K C t = true ∧ sp [x, y] H (fun v H' => ∃ k, v = .bl k ∧ Q (.bl k) H') E0
theorem op_eqI {C f : Addr} {fd : FuncData} {ps : List Str} {n : Nat} {sp : Sp} (Fo : FnOk X.prog X.w X.K X.mg X.base (L2.CX X.prog X.w) n f fd ps sp)
    (hs : PySem.W.findIn X.K (.ref C) "__eq__" = some (some (.ref f))) (hf : PySem.W.isFn X.K (.ref f) = true) (hb : Binds X.K fd ps []) (hr : Room n X.A) : OpR X (compareOp .Eq) (rEqI C sp X.K) := by
  intro pins s σ H x y v u Q I rx ry h
  obtain ⟨a, dx, fs, t, rfl, ha, ty, nf, hsp⟩ := h
  cases rx
  show wpAny (model X.prog X.w) X.A (richCompare .Eq (.ref a) u) (EP X pins σ Q) X.xe s
  obtain ⟨mA, J, _⟩ := ins_get I.hok ha
  obtain ⟨od, J, _⟩ := J.look
  obtain ⟨m, hF⟩ := I.fr
  obtain ⟨P, Z, hP, _⟩ := kit_of I ry ty
  have hl := Fo.len _ _ _ _ hsp
  have r2 : Vals [V.ref a, y] [Value.ref a, u] := .cons rfl (.cons ry .nil)
  -- what comes back is True or False
  refine PySem.W.cmp_K (op := .Eq) (tb := t) hr.units0 hF I.ok.mod.kin J (Z.ty _ _ I.kIn hP) nf hs hf ?_
  refine wpAny_call (codeAny_mono (Fo.run X.A X.stack s H ⟨[.ref a, u], []⟩ [.ref a, u] [.ref a, y] _ E0 hr I.env0 (by
    have := hb s [.ref a, u] I.kIn (by simpa using hl)
    simpa using this) r2 hsp) fun r s' hq => ?_)
  cases r with
  | error e => exact (passL pins σ H s e s' I hq)
  | ok fl =>
    cases fl with
    | ret w =>
      obtain ⟨z, H', I', rz, k, ez, qz⟩ := I.after hq
      subst ez
      cases rz
      exact ⟨.bl k, H', I', rfl, qz⟩
    | next => exact False.elim hq
    | brk => exact False.elim hq
    | cont => exact False.elim hq
def eqKind (c : Nat) : D → Bool
  | .ins c' _ _ => c' == c
  | x => (tyName x).isSome
def resEq (c : Nat) (fn : Fn) (a b : Ar) (E : Nv) : R D := match a.get E, b.get E with
  | some (.ins c1 _ _), some y => if c1 = c ∧ eqKind c y = true then (resC fn [a, b] E).nox.bind fun d E2 => match asB d with
    | some k => .val (.bl k) E2
    | none => .bad else .bad
  | _, _ => .bad
def fEqI (c : Nat) (fn : Fn) (fa fb : Nv → R Ar) : Nv → R D := fun E => (fa E).bind fun a E1 => (fb E1).bind fun b E2 => resEq c fn a b E2
theorem eqKind_ok {c : Nat} {y : D} {u : V} (hI : ∀ c, InsTy g c) (sf : Same F H) (r : RepH g F H y u) (h : eqKind c y = true) : ∃ t, TyX g.K H u t ∧ PySem.W.notFirst g.K (g.cls c) t = true := by
  have base : ∀ t, tyName y = some t → ∃ t, TyX g.K H u t ∧ PySem.W.notFirst g.K (g.cls c) t = true := fun t ht => by
    obtain ⟨h1, h2⟩ := tyx_of sf r ht
    refine ⟨_, h1, ?_⟩
    unfold PySem.W.notFirst
    rw [sub_own t h2]
    simp
  cases y with
  | ins c' ns ds =>
    have e : c' = c := by simpa [eqKind] using h
    subst e
    obtain ⟨a, dx, xs, rfl, q, _⟩ := r.ins sf
    obtain ⟨cl, ha, hn, htk, hm, _, _⟩ := hI c'
    refine ⟨_, .base (.ins q cl ha hn htk hm), ?_⟩
    unfold PySem.W.notFirst
    simp
  | _ =>
    unfold eqKind at h
    obtain ⟨t, ht⟩ := Option.isSome_iff_exists.mp h
    exact base t ht
theorem le_eqI {c : Nat} {fn : Fn} {fa fb : Nv → R Ar} {Q : VK} (hI : ∀ c, InsTy g c) (h : tG g W (relD g) (fEqI c fn fa fb) σ H Q) : tOp (rEqI (g.cls c) (spF g 2 fn) g.K) (tG g W (relA g) fa) (tG g W (relA g) fb) σ H Q := by
  obtain ⟨ρ, G, E, F, st, q⟩ := h
  refine bindE st q fun x E1 v F1 H1 st1 s1 r1 q1 => ?_
  refine bindE st1 q1 fun y E2 u F2 H2 st2 s2 r2 q2 => ?_
  unfold resEq at q2
  cases z1 : x.get E2 with
  | none => simp only [z1] at q2; exact q2.elim
  | some d =>
    cases z2 : y.get E2 with
    | none => simp only [z1, z2] at q2; cases d <;> exact q2.elim
    | some e =>
      simp only [z1, z2] at q2
      cases d with
      | ins c1 ns ds =>
        simp only at q2
        by_cases hc : c1 = c ∧ eqKind c e = true
        · rw [if_pos hc] at q2
          obtain ⟨rfl, hk⟩ := hc
          have rx := r1.mono s2
          obtain ⟨p, dx, xs, rfl, hp, _⟩ := (ar_ok st2 rx z1).ins st2.sf
          obtain ⟨t, ty, nf⟩ := eqKind_ok hI st2.sf (ar_ok st2 r2 z2) hk
          refine ⟨p, dx, _, t, rfl, hp, ty, nf, ?_⟩
          refine resC_ok (W := W0) (ars := [x, y]) st2 ⟨_, _, rfl, rx, _, _, rfl, r2, rfl⟩ rfl ?_
          revert q2
          cases resC fn [x, y] E2 with
          | bad => exact fun q => q
          | exc k f E' => exact fun q => q.elim
          | val d E' =>
            intro q v F' H' st' ss r
            have q : post g W (relD g) ρ G F2 σ Q (match asB d with | some k => .val (.bl k) E' | none => .bad) := q
            cases d with
            | bl k =>
              obtain rfl : v = .bl k := r
              exact ⟨k, rfl, q _ F' H' st' ss rfl⟩
            | _ => exact q.elim
        · rw [if_neg hc] at q2; exact q2.elim
      | _ => exact q2.elim
theorem fe_eqI {c : Nat} {fn : Fn} {fa fb : Nv → R Ar} (hI : ∀ c, InsTy g c) (h : PE X e (tOp (rEqI (g.cls c) (spF g 2 fn) g.K) (tG g W (relA g) fa) (tG g W (relA g) fb))) : FE X g W e (fEqI c fn fa fb) := peImp h fun _ _ _ q => le_eqI hI q
theorem ft_eqI {c : Nat} {fn : Fn} {fa fb : Nv → R Ar} (hI : ∀ c, InsTy g c) (h : PT X e (tTest (tOp (rEqI (g.cls c) (spF g 2 fn) g.K) (tG g W (relA g) fa) (tG g W (relA g) fb)))) : FT X g W e (fTest (fEqI c fn fa fb)) := ptImp h fun _ _ _ q => le_test (fun _ _ _ => le_eqI hI) q
end

/-! ## enumerate -/
end FL
namespace PySem
open Sem (wp)
open AutoSeq1 (wpAny_loadPart')
theorem fl_meets_enumerate_newT (l : Addr) (items : Array Value) (n : Nat) (dct : Option Addr) (sl : Array (Option Value)) :
    Meets (Builtin.«enumerate.__new__» ⟨[.type "enumerate", .ref l], []⟩) (fun _ R s => s.heap.get? l = some { cls := .type "tuple", dict := dct, data := .seq items n, slots := sl } ∧
      R (.ok (.ret (.ref (s.heap.push { cls := .type "tuple_iterator", data := .fields #[.ref l, .int 0 0] }).objs.size)))
        { s with heap := (s.heap.push { cls := .type "tuple_iterator", data := .fields #[.ref l, .int 0 0] }).push { cls := .type "enumerate", data := .fields #[.none, .bool false, .ref s.heap.objs.size, rawInt 0, .none, .none] } }) :=
  .of_wp fun prog w A R s h => by
    obtain ⟨hp, g, d, tk, os⟩ := s; obtain ⟨hl, h⟩ := h
    have hsub := sub_enumerate
    have hL : Heap.IsTuple (Shared.heap ⟨hp, g, d, tk, os⟩) l items := ⟨_, hl, rfl, n, rfl⟩
    wp_walk using wpAny_loadPart' hl
    refine wpAny_stack_any fun st => wpAny_pure ?_
    split
    · rename_i c _ _ _ _ _
      cases (c == Value.type "enumerate")
      · wp_walk using wpAny_loadPart' hl, wpAny_pyIter_tuple hL
        exact ⟨_, rfl, h⟩
      · wp_walk using wpAny_loadPart' hl, wpAny_pyIter_tuple hL
        exact ⟨_, rfl, h⟩
    · wp_walk using wpAny_loadPart' hl, wpAny_pyIter_tuple hL
      exact ⟨_, rfl, h⟩
theorem fl_call_enumerate_tuple {prog : Program} {w : World} {A : Around} {E : Value → Shared → Prop} {s : Shared} {l : Addr} {items : Array Value} {Q : Value → Shared → Prop} (hL : s.heap.IsTuple l items)
    (h : ∀ h', IsEnum h' (s.heap.objs.size + 1) s.heap.objs.size 0 .none → h'.IsTupleIter s.heap.objs.size l 0 → h'.objs.size = s.heap.objs.size + 2 →
      (∀ b o, s.heap.get? b = some o → h'.get? b = some o) → Q (.ref (s.heap.objs.size + 1)) { s with heap := h' }) :
    wpAny (model prog w) A (call (.type "enumerate") [.ref l]) Q E s := by
  obtain ⟨⟨c, dct, dt, sl⟩, hl, hc, n, hd⟩ := hL
  replace hc : c = .type "tuple" := hc
  replace hd : dt = .seq items n := hd
  subst hc hd
  refine callType_new F.called_enumerate (by decide) (F.typeCall_enumerate_1 _) (F.newCall_enumerate_1 _) (fun obj => F.args_object_init_2 obj _) F.entry_enumerate_new
    (fl_meets_enumerate_newT l items n dct sl) ⟨hl, ?_⟩
  have hz : (s.heap.push { cls := .type "tuple_iterator", data := .fields #[.ref l, .int 0 0] }).objs.size = s.heap.objs.size + 1 := Heap.size_push ..
  show _ ∧ _
  rw [hz]
  have he : IsEnum ((s.heap.push { cls := .type "tuple_iterator", data := .fields #[.ref l, .int 0 0] }).push
      { cls := .type "enumerate", data := .fields #[.none, .bool false, .ref s.heap.objs.size, rawInt 0, .none, .none] }) (s.heap.objs.size + 1) s.heap.objs.size 0 .none := by
    have := Heap.get?_push_size (s.heap.push { cls := .type "tuple_iterator", data := .fields #[.ref l, .int 0 0] })
      (o := { cls := .type "enumerate", data := .fields #[.none, .bool false, .ref s.heap.objs.size, rawInt 0, .none, .none] }) rfl
    rw [hz] at this; exact this
  refine ⟨⟨_, he, rfl⟩, h _ he ⟨_, Heap.get?_push_of_some _ (Heap.get?_push_size _ rfl), rfl, rfl⟩ (by rw [Heap.size_push, hz]) fun b o x => Heap.get?_push_of_some _ (Heap.get?_push_of_some _ x)⟩
end PySem
namespace FL
open PySem PySem.Spec PyProof.Rows L2
def IteT (K : PySem.W.Frag) (a : Addr) : It :=
  ⟨fun i H => ∃ (xs : List V) (x : V), SqT K H a xs ∧ xs[i]? = some x, fun i H v H' => ∃ T x, v = .ref T ∧ H T = none ∧ H' = upd H T (.tup [.int (i : Nat), x]) ∧ ∀ xs, SqT K H a xs → xs[i]? = some x, fun i H => ∃ xs : List V, SqT K H a xs ∧ xs.length = i⟩
theorem turn_enumT {P : Program} {w : World} {K : PySem.W.Frag} {elts : List Expr} {kk : Nat} {tpos : Pos} (a e it : Addr) (hai : a ≠ it) (hae : a ≠ e) :
    Turn P w K (.Tuple elts kk tpos) (IteT K a) [e, it] e (fun i h => (∃ old, IsEnum h e it ((i : Nat) : Int) old) ∧ h.IsTupleIter it a i ∧ e ≠ it) where
  mem := by simp
  obj := fun i h st b hb => by
    obtain ⟨⟨old, he⟩, ⟨o, ho, hc, hd⟩, _⟩ := st
    have e' : b = e ∨ b = it := by simpa using hb
    rcases e' with z | z
    · rw [z]; exact ⟨_, he, fun v q => nomatch q⟩
    · rw [z]; exact ⟨o, ho, fun v q => by rw [hd] at q; cases q⟩
  keep := fun i h h' st k => let ⟨⟨old, he⟩, hi, hne⟩ := st; ⟨⟨old, k e (by simp) _ he⟩, hi.at fun o q => k it (by simp) o q, hne⟩
  item := by
    intro X hP hw hK hc i pins s σ H E I hf st hg
    subst hP hw hK
    obtain ⟨⟨old, he⟩, hit, hne⟩ := st
    obtain ⟨xs, x, hq, hx⟩ := hg
    obtain ⟨its, rv, p, hz⟩ := I.tuple hq
    obtain ⟨u, hu, ru⟩ := rv.get hx
    have hel : e < s.heap.objs.size := Heap.lt_size he
    have hil : it < s.heap.objs.size := by obtain ⟨_, q, _⟩ := hit; exact Heap.lt_size q
    have D := Draws.tuple (prog := X.prog) (w := X.w) (A := X.A.in1) (I.ok.hd hc) it a hai its.toArray
    have hlt : i < its.toArray.size := by
      have := (List.getElem?_eq_some_iff.mp hu).1
      simpa using this
    have pT : s.heap.IsTuple a its.toArray := p
    refine wpAny_pyNext_enum_itemD D he ⟨hit, pT⟩ hlt hne (by simp; exact ⟨hne, Ne.symm hae⟩) fun y h' tk hP ho hs' hT hsz hk => ?_
    have ey : y = u := by
      have e1 : its[i]? = some y := by simpa using hP
      rw [hu] at e1
      exact (Option.some.inj e1).symm
    subst ey
    refine ⟨_, rfl, wpAny_letOwnedTupleGo_enum (s := { s with heap := h', toks := tk + 1 }) ho fun h'' he' sb => ?_⟩
    have hT2 : h''.get? s.heap.objs.size = some { cls := .type "tuple", data := .seq #[.int i tk, y] } := (sb.2 _ (Nat.ne_of_gt hel)).trans hT
    have new : ObjOk X.prog X.w (upd H s.heap.objs.size (.tup [.int (i : Nat), x])) h'' s.heap.objs.size (.tup [.int (i : Nat), x]) :=
      ⟨by show 2 ≤ sizeLine; decide, [.int i tk, y], .cons ⟨_, rfl⟩ (.cons ru .nil), ⟨_, hT2, rfl, _, rfl⟩⟩
    have I1 : Inv X pins σ (upd H s.heap.objs.size (.tup [.int (i : Nat), x])) { s with heap := h'', toks := tk + 1 } :=
      I.turnedNew (ch := [e, it]) (fun b ob hb q => (sb.2 b (fun z => hb (by simp [z]))).trans (hk b ob (fun z => hb (by simp [z])) (fun z => hb (by simp [z])) q)) hf (Nat.le_refl _) new
    refine ⟨.ref s.heap.objs.size, _, I1, rfl, ⟨_, x, rfl, I.hok.fresh (Nat.le_refl _), rfl, fun ys hy => by rw [I.tuple_inj hy hq]; exact hx⟩, ⟨⟨y, ?_⟩, hs'.1.at fun o q => (sb.2 it (Ne.symm hne)).trans q, hne⟩, fun b hb => ?_⟩
    · have e1 : ((i + 1 : Nat) : Int) = (i : Int) + 1 := by omega
      rw [e1]; exact he'
    · have hb' : b < s.heap.objs.size := by
        have e' : b = e ∨ b = it := by simpa using hb
        rcases e' with z | z
        · rw [z]; exact hel
        · rw [z]; exact hil
      rw [upd_ne (Nat.ne_of_lt hb')]
      exact (hf b hb).1
  done := by
    intro X hP hw hK hc i pins s σ H E I hf st hg
    subst hP hw hK
    obtain ⟨⟨old, he⟩, hit, hne⟩ := st
    obtain ⟨xs, hq, hx⟩ := hg
    obtain ⟨its, rv, p, hz⟩ := I.tuple hq
    obtain ⟨f0, f1, f2, f3, f4, f5⟩ := hf it (by simp)
    have hl := rv.length
    have pT : s.heap.IsTuple a its.toArray := p
    have D := Draws.tuple (prog := X.prog) (w := X.w) (A := X.A.in1) (I.ok.hd hc) it a hai its.toArray
    have en : i = its.toArray.size := by rw [List.size_toArray, ← hl]; exact hx.symm
    refine wpAny_pyNext_enum_endD D he ⟨by rw [← en]; exact hit, pT⟩ fun h' eb => ⟨rfl, I.turned (t' := s.toks) (fun b o hb q => eb b o hb q) f0 f1 f3 f4 f5⟩
  self := fun A i s Q E st h => let ⟨⟨_, he⟩, _⟩ := st; wpAny_pyIter_enum he h
/-- enumerate of a list or of a tuple -/
def iEnumA (K : PySem.W.Frag) (ta : TA) : TI := fun σ H R => ta σ H fun vs H1 => (∃ a xs, vs = [.ref a] ∧ SqL K H1 a xs ∧ R (Ite K a) H1) ∨ ∃ a xs, vs = [.ref a] ∧ SqT K H1 a xs ∧ R (IteT K a) H1
theorem pi_enumA {X : Cx} {e : Expr} {ta : TA} {p pos tpos : Pos} {elts : List Expr} {kk : Nat} (hg : Gl X "enumerate") (hm : X.mg "enumerate" = none) (ha : PA X [e] ta) (hs : starEach [e] X.env = [(false, eval e X.env)] := by rfl) :
    PI X (.Tuple elts kk tpos) (.Call (.Name "enumerate" p) [e] [] pos) (iEnumA X.K ta) := by
  refine ⟨fun pins s σ H R I h => ?_⟩
  refine Call_ (ld_blt I hg hm boot_enumerate (PyProof.Rows.callWith_type1 (thn (ha.run pos pins s σ H _ I h) fun us s1 ⟨vs, H1, I1, r1, q1⟩ => ?_) hs rfl))
  have fp : ∀ b ∈ [s1.heap.objs.size + 1, s1.heap.objs.size], FpOk X pins H1 b := fun b hb => by
    have e' : b = s1.heap.objs.size + 1 ∨ b = s1.heap.objs.size := by simpa using hb
    have hle : s1.heap.objs.size ≤ b := by
      rcases e' with z | z
      · rw [z]; exact Nat.le_add_right _ _
      · rw [z]; exact Nat.le_refl _
    exact I1.fpOk hle (I1.hok.fresh hle)
  rcases q1 with ⟨a, xs, ex, hq, q⟩ | ⟨a, xs, ex, hq, q⟩
  · subst ex
    cases r1 with
    | cons r rr =>
      cases rr
      cases r
      obtain ⟨its, rv, p', hz⟩ := I1.list hq
      refine call_enumerate_list p'.isList fun h' he hit hsz hk => wpAny_pyIter_enum he ?_
      have I2 : Inv X pins σ H1 { s1 with heap := h' } := I1.kept (t' := s1.toks) hk
      exact ⟨s1.heap.objs.size + 1, [s1.heap.objs.size + 1, s1.heap.objs.size], _, _, H1, rfl, I2, turn_enum a (s1.heap.objs.size + 1) s1.heap.objs.size, ⟨⟨.none, he⟩, hit, Nat.succ_ne_self _⟩, fp, q⟩
  · subst ex
    cases r1 with
    | cons r rr =>
      cases rr
      cases r
      obtain ⟨its, rv, p', hz⟩ := I1.tuple hq
      have al : a < s1.heap.objs.size := p'.lt
      refine fl_call_enumerate_tuple p' fun h' he hit hsz hk => wpAny_pyIter_enum he ?_
      have I2 : Inv X pins σ H1 { s1 with heap := h' } := I1.kept (t' := s1.toks) hk
      exact ⟨s1.heap.objs.size + 1, [s1.heap.objs.size + 1, s1.heap.objs.size], _, _, H1, rfl, I2, turn_enumT a (s1.heap.objs.size + 1) s1.heap.objs.size (Nat.ne_of_lt al) (Nat.ne_of_lt (Nat.lt_succ_of_lt al)), ⟨⟨.none, he⟩, hit, Nat.succ_ne_self _⟩, fp, q⟩
theorem walk_enumT {K : PySem.W.Frag} {a : Addr} {xs : List V} : Walk (IteT K a) xs.length (fun H => SqT K H a xs) (YPair (fun i => some (.int (i : Nat))) (fun i => xs[i]?)) := by
  refine ⟨fun i _ hi q => ⟨xs, xs[i], q, by simp [hi]⟩, fun _ q => ⟨xs, q, rfl⟩, fun i H v H' _ q y => ?_⟩
  obtain ⟨T, x, h1, h2, h3, h4⟩ := y
  exact ⟨T, .int (i : Nat), x, h1, h2, h3, rfl, h4 xs q⟩
/-- pairs of a number and an item -/
def enumD : Nat → List D → List D
  | _, [] => []
  | n, d :: ds => .tup [.int (n : Nat), d] :: enumD (n + 1) ds
theorem enumD_get : ∀ {ds : List D} {n i : Nat} {d : D}, ds[i]? = some d → (enumD n ds)[i]? = some (.tup [.int ((n + i : Nat) : Int), d])
  | [], _, _, _, h => by simp at h
  | d :: ds, n, 0, _, h => by simp at h; subst h; rfl
  | d :: ds, n, i + 1, _, h => by
    have := enumD_get (n := n + 1) (i := i) (by simpa using h)
    rw [show n + 1 + i = n + (i + 1) by omega] at this
    simpa [enumD] using this
theorem enumD_length : ∀ (ds : List D) (n : Nat), (enumD n ds).length = ds.length
  | [], _ => rfl
  | _ :: ds, n => by simp [enumD, enumD_length ds]
def itE : List D → Option (List D)
  | [.lst ds] => some (enumD 0 ds)
  | [.tup ds] => some (enumD 0 ds)
  | _ => none
def iEnumF (fs : Nv → R (List Ar)) : Nv → R (List D) := fun E => (fs E).bind fun as E1 => match valsOf as with
  | some ds => R.some (itE ds) E1
  | none => .bad
theorem fi_enum {X : Cx} {g : Gm} {W : WX} {e tg : Expr} {fs : Nv → R (List Ar)} (hK : X.K = g.K) (h : PI X tg e (iEnumA X.K (tG g W (relAs g) fs))) : FI X g W tg e (iEnumF fs) := piImp h fun σ H Q ⟨ρ, G, E, F, st, q⟩ =>
  bindI st q fun as E1 vs F1 H1 st1 s1 r1 q1 => by
    rw [hK]
    cases z : valsOf as with
    | none => simp only [z] at q1; exact q1.elim
    | some ds =>
      simp only [z] at q1
      have rl := valsOf_ok r1 z
      have pairs : ∀ {a : List D} {us : List V}, RepL g F1 a us → ∀ (i : Nat) (x y : V), i < us.length → some (V.int (i : Nat)) = some x → us[i]? = some y → ∃ d e, (enumD 0 a)[i]? = some (.tup [d, e]) ∧ Rep g F1 d x ∧ Rep g F1 e y := fun {a us} ra i x y _ hx hy => by
        cases hx
        obtain ⟨d, h1, r1⟩ := RepL.at (ds := a) (xs := us) (i := i) (x := y) ra hy
        exact ⟨.int (i : Nat), d, by rw [enumD_get h1, Nat.zero_add], rfl, r1⟩
      unfold itE at q1
      split at q1
      · obtain ⟨x, xs, rfl, ⟨p, us, rfl, hu, ru⟩, e0⟩ := rl
        cases (show xs = [] from e0)
        exact .inl ⟨p, us, rfl, .of (st1.sf _ _ hu), q1 _ F1 H1 st1 (Same.refl _) (walks_pair walk_enum (by rw [enumD_length, ru.length]) (fun H F2 a b => .of (b _ _ (a _ _ hu))) fun i x y h1 h2 h3 => pairs ru i x y h1 h2 h3)⟩
      · obtain ⟨x, xs, rfl, ⟨p, us, rfl, hu, ru⟩, e0⟩ := rl
        cases (show xs = [] from e0)
        exact .inr ⟨p, us, rfl, same_t st1.sf hu, q1 _ F1 H1 st1 (Same.refl _) (walks_pair walk_enumT (by rw [enumD_length, ru.length]) (fun H F2 a b => same_t (a.trans b) hu) fun i x y h1 h2 h3 => pairs ru i x y h1 h2 h3)⟩
      · exact q1.elim
end FL

namespace FL
open PySem PySem.Spec PyProof.Rows L2

/-! ## isinstance of one of several classes -/
/-- classes that are built-in -/
def tyNames : List D → Option (List String)
  | [] => some []
  | .ty T :: r => match tyNames r with
    | some l => if tgs.contains T = true then some (T :: l) else none
    | none => none
  | _ => none
def resIsiT (a : Ar) (cs : List Ar) (E : Nv) : R D := match a.get E with
  | none => .bad
  | some x => match tyName x, valsOf cs with
    | some t, some ds => match tyNames ds with
      | some l => if ds.length ≤ sizeLine then .val (.bl (l.any fun T => subTy t T)) E else .bad
      | none => .bad
    | _, _ => .bad
def fIsiT (fx : Nv → R Ar) (fc : Nv → R (List Ar)) : Nv → R D := fun E => (fx E).bind fun a E1 => (fc E1).bind fun cs E2 => resIsiT a cs E2
section
variable {g : Gm} {F H : Hp} {W : WX} {X : Cx} {e : Expr}
theorem tyNames_ok {K : PySem.W.Frag} {t : String} (ht : t ∈ tys) : ∀ {ds : List D} {vs : List V} {l : List String}, RepL g F ds vs → tyNames ds = some l → ∃ us, Paired ClsV vs us ∧ PySem.W.kitAny K (.type t) us = some (l.any fun T => subTy t T)
  | [], _, _, r, h => by cases (show _ = [] from r); cases h; exact ⟨[], .nil, rfl⟩
  | d :: ds, _, _, r, h => by
    obtain ⟨x, xs, rfl, rx, rt⟩ := r
    cases d with
    | ty T =>
      unfold tyNames at h
      cases z : tyNames ds with
      | none => simp [z] at h
      | some l =>
        simp only [z] at h
        obtain ⟨hT, rfl⟩ := iteSome h
        obtain ⟨us, p, k⟩ := tyNames_ok (K := K) ht rt z
        obtain rfl : x = .ty T := rx
        refine ⟨.type T :: us, .cons (.ty T) p, ?_⟩
        have e := kit_ty (K := K) (kitB_tys t ht T (by simpa using hT))
        refine kitAny_cons e (fun hb => ?_) fun hb => ?_
        · rw [List.any_cons, hb, Bool.false_or]; exact k
        · rw [List.any_cons, hb, Bool.true_or]
    | _ => cases h
theorem fe_isiT {fx : Nv → R Ar} {fc : Nv → R (List Ar)} (hK : X.K = g.K) (h : PE X e (tCB (rIsiT X.K) (tCons (tG g W (relA g) fx) (tCons (tTup (tG g W (relAs g) fc)) tNil)))) : FE X g W e (fIsiT fx fc) := peImp h fun σ H Q ⟨ρ, G, E, F, st, q⟩ =>
  bindE st q fun a E1 v F1 H1 st1 s1 r1 q1 => bindE st1 q1 fun cs E2 vs F2 H2 st2 s2 r2 q2 => by
    unfold resIsiT at q2
    cases z1 : a.get E2 with
    | none => simp only [z1] at q2; exact q2.elim
    | some x =>
      simp only [z1] at q2
      cases z2 : tyName x with
      | none => simp only [z2] at q2; exact q2.elim
      | some t =>
        cases z3 : valsOf cs with
        | none => simp only [z2, z3] at q2; exact q2.elim
        | some ds =>
          simp only [z2, z3] at q2
          cases z4 : tyNames ds with
          | none => simp only [z4] at q2; exact q2.elim
          | some l =>
            simp only [z4] at q2
            have rl := valsOf_ok r2 z3
            by_cases hl : ds.length ≤ sizeLine
            · rw [if_pos hl] at q2
              obtain ⟨ty, tm⟩ := tyx_of st2.sf (ar_ok st2 (r1.mono s2) z1) z2
              obtain ⟨us, p, k⟩ := tyNames_ok (K := X.K) tm rl z4
              refine ⟨by rw [← rl.length]; exact hl, fun tp hp => ?_⟩
              have st3 := st2.grow hp (.tup vs)
              obtain ⟨ty3, _⟩ := tyx_of (g := g) st3.sf (ar_ok st3 (r1.mono (s2.trans (Same.new (st2.fF hp)))) z1) z2
              exact ⟨v, tp, vs, .type t, us, _, rfl, upd_same, p, by rw [hK]; exact ty3, k, q2 _ _ _ st3 (Same.new (st2.fF hp)) rfl⟩
            · rw [if_neg hl] at q2; exact q2.elim
end
theorem units65 {k : Nat} {A : Around} (r : Room k A) : A.units + 65 < cLine := by have := r.un; omega
/-- a def that is never called deeper -/
def fn0 : Fn := fun _ => .bad
theorem fn0_ok {P : Program} {w : World} {K : PySem.W.Frag} {mg : Str → Option Value} {base : Heap} {g : Gm} {k : Nat} {f : Addr} {fd : FuncData} {ps : List Str} (n : Nat) (hn : n = ps.length) : FnOk P w K mg base (L2.CX P w) k f fd ps (spF g n fn0) :=
  ⟨fun vs H Q E h => by rw [h.1, hn], fun A outer s H args us vs Q E hr e0 hb r h => by
    obtain ⟨_, ρ, G, as, F, st, q⟩ := h
    exact q.elim⟩
/-- a def of the text, by the facts of the written part -/
theorem fun_at {K : PySem.W.Frag} {x qual : Str} {st : Stmt} {ps : List Str} {f : Addr} {oc : Value} {od an : Option Addr} {osl : Array (Option Value)} {kV doc pm cdv ct : Value}
    (l : K.lookup f = some ⟨oc, od, .func (PySem.W.fnOf x qual (defArgs st) (defBody st) (defScope st) .none kV doc pm an cdv ct), osl⟩) (c : PySem.W.codeIn K cdv qual = true) (k : PySem.W.keepIn K (.ref f) = true)
    (h : ∀ (kV doc pm : Value) (an : Option Addr) (cdv ct : Value) (us : List Value), us.length = ps.length → bindArgs (PySem.W.fnOf x qual (defArgs st) (defBody st) (defScope st) .none kV doc pm an cdv ct) ⟨us, []⟩ = pure (ps.zip us)) :
    ∃ fd, Fun K x qual st f fd ∧ Binds K fd ps [] := ⟨_, fun_mk l c k, (fun_mk l c k).binds h⟩
end FL

namespace FL
open PySem PySem.Spec PyProof.Rows L2

/-! ## what a function on data does -/
def wp {α : Type} : R α → (α → Nv → Prop) → Prop
  | .val a E, Q => Q a E
  | _, _ => False
def wpF : FR → (D → List Sl → Prop) → Prop
  | .val d bs, Q => Q d bs
  | _, _ => False
def wpN : FR → (D → List Sl → Prop) → Prop
  | .new d bs, Q => Q d bs
  | _, _ => False
section
variable {α β : Type} {a : α} {E : Nv} {Q : α → Nv → Prop}
theorem wp_val : wp (.val a E) Q = Q a E := rfl
theorem wp_bad : wp (.bad : R α) Q = False := rfl
theorem wp_bind {r : R β} {k : β → Nv → R α} : wp (r.bind k) Q = wp r fun b E1 => wp (k b E1) Q := by cases r <;> rfl
theorem wp_nox {r : R α} : wp r.nox Q = wp r Q := by cases r <;> rfl
theorem wp_somes {a : α} : wp (R.some (some a) E) Q = Q a E := rfl
theorem wp_some {o : Option α} : wp (R.some o E) Q = ∃ a, o = some a ∧ Q a E := by
  cases o with
  | none => exact propext ⟨fun h => h.elim, fun ⟨_, h, _⟩ => nomatch h⟩
  | some a => exact propext ⟨fun h => ⟨a, rfl, h⟩, fun ⟨_, h, q⟩ => by cases h; exact q⟩
theorem wp_imp {r : R α} {Q' : α → Nv → Prop} (h : wp r Q) (i : ∀ a E, Q a E → Q' a E) : wp r Q' := by
  cases r with
  | val a E => exact i a E h
  | exc _ _ _ => exact h
  | bad => exact h
theorem wpF_imp {r : FR} {Q Q' : D → List Sl → Prop} (h : wpF r Q) (i : ∀ a E, Q a E → Q' a E) : wpF r Q' := by
  cases r with
  | val a E => exact i a E h
  | _ => exact h
theorem wp_ite {c : Prop} [Decidable c] {r s : R α} : wp (if c then r else s) Q = if c then wp r Q else wp s Q := by split <;> rfl
end
section
variable {E : Nv} {QD : D → Nv → Prop} {QB : Bool → Nv → Prop} {QA : Ar → Nv → Prop} {QL : List Ar → Nv → Prop} {QS : Fl → Nv → Prop} {QI : List D → Nv → Prop} {QP : Option Int → Nv → Prop}
  {f h : Nv → R D} {fa fb fc : Nv → R Ar} {t u : Nv → R Bool} {s s2 : Nv → R Fl} {fs : List (Nv → R Ar)} {fl : Nv → R (List Ar)} {i j : Nat} {d : D} {o o' : D → D → Option D}
theorem wp_fC : wp (fC d E) QD = QD d E := rfl
theorem wp_fV : wp (fV f E) QA = wp (f E) fun d E1 => QA (.v d) E1 := by unfold fV; rw [wp_bind]; rfl
theorem wp_fOp2 : wp (fOp2 o fa fb E) QD = wp (fa E) fun a E1 => wp (fb E1) fun b E2 => wp (res2 o E2 a b) QD := by unfold fOp2; simp only [wp_bind]
theorem wp_res2 {a b : Ar} {d e : D} (h1 : a.get E = some d) (h2 : b.get E = some e) : wp (res2 o E a b) QD = ∃ z, o d e = some z ∧ QD z E := by unfold res2; simp only [h1, h2]; exact wp_some
theorem wp_fAs0 : wp (fAs [] E) QL = QL [] E := rfl
theorem wp_fAs1 : wp (fAs (fa :: fs) E) QL = wp (fa E) fun a E1 => wp (fAs fs E1) fun as E2 => QL (a :: as) E2 := by rw [show fAs (fa :: fs) E = (fa E).bind fun a E1 => (fAs fs E1).bind fun as E2 => .val (a :: as) E2 from rfl]; simp only [wp_bind, wp_val]
theorem wp_fOpL {o : List D → Option D} : wp (fOpL o fl E) QD = wp (fl E) fun as E1 => wp (resL o E1 as) QD := by unfold fOpL; simp only [wp_bind]
theorem wp_fOpV {o : List D → Option D} : wp (fOpV o fl E) QD = wp (fl E) fun as E1 => wp (resV o E1 as) QD := by unfold fOpV; simp only [wp_bind]
theorem wp_fTest : wp (fTest f E) QB = wp (f E) fun d E1 => ∃ b, asB d = some b ∧ QB b E1 := by unfold fTest; simp only [wp_bind, wp_some]
theorem wp_fChain : wp (fChain o o' fa fb fc E) QD = wp (fa E) fun a E1 => wp (fb E1) fun b E2 => wp (res2 o E2 a b) fun z E3 => (asB z = some true ∧ wp (fc E3) fun c E4 => wp (res2 o' E4 b c) QD) ∨ (asB z = some false ∧ QD (.bl false) E3) := by
  unfold fChain
  simp only [wp_bind]
  congr; funext a E1; congr; funext b E2; congr; funext z E3
  cases h : asB z with
  | none => simp [wp]
  | some b => cases b <;> simp [wp_bind, wp_val]
theorem wp_fAnd : wp (fAnd f h E) QD = wp (f E) fun d E1 => (asB d = some true ∧ wp (h E1) QD) ∨ (asB d = some false ∧ QD (.bl false) E1) := by
  unfold fAnd
  simp only [wp_bind]
  congr; funext z E3
  cases h : asB z with
  | none => simp [wp]
  | some b => cases b <;> simp [wp]
theorem wp_fOr : wp (fOr f h E) QD = wp (f E) fun d E1 => (asB d = some false ∧ wp (h E1) QD) ∨ (asB d = some true ∧ QD (.bl true) E1) := by
  unfold fOr
  simp only [wp_bind]
  congr; funext z E3
  cases h : asB z with
  | none => simp [wp]
  | some b => cases b <;> simp [wp]
theorem wp_fNot : wp (fNot f E) QD = wp (f E) fun d E1 => ∃ b, asB d = some b ∧ QD (.bl (!b)) E1 := by
  unfold fNot
  simp only [wp_bind]
  congr; funext z E3
  cases h : asB z with
  | none => simp [wp]
  | some b => simp [wp]
theorem wp_tAndF : wp (tAndF t u E) QB = wp (t E) fun b E1 => if b = true then wp (u E1) QB else QB false E1 := by unfold tAndF; simp only [wp_bind, wp_ite, wp_val]
theorem wp_tOrF : wp (tOrF t u E) QB = wp (t E) fun b E1 => if b = true then QB true E1 else wp (u E1) QB := by unfold tOrF; simp only [wp_bind, wp_ite, wp_val]
theorem wp_tNotF : wp (tNotF t E) QB = wp (t E) fun b E1 => QB (!b) E1 := by unfold tNotF; simp only [wp_bind, wp_val]
theorem wp_fIf {α : Type} {Q : α → Nv → Prop} {f g : Nv → R α} : wp (fIf t f g E) Q = wp (t E) fun b E1 => if b = true then wp (f E1) Q else wp (g E1) Q := by unfold fIf; simp only [wp_bind, wp_ite]
/-! statements -/
theorem wp_fNx : wp (fNx E) QS = QS .nx E := rfl
theorem wp_fBad {α : Type} {Q : α → Nv → Prop} : wp (fBad E) Q = False := rfl
theorem wp_fSeq : wp (fSeq s s2 E) QS = wp (s E) fun fl E1 => match fl with
    | .nx => wp (s2 E1) QS
    | fl => QS fl E1 := by
  unfold fSeq
  cases s E with
  | val fl E1 => cases fl <;> rfl
  | _ => rfl
theorem wp_fDrop : wp (fDrop f E) QS = wp (f E) fun _ E1 => QS .nx E1 := by unfold fDrop; simp only [wp_bind, wp_val]
theorem wp_fRet : wp (fRet f E) QS = wp (f E) fun d E1 => QS (.rt d) E1 := by unfold fRet; simp only [wp_bind, wp_val]
theorem wp_fRetN : wp (fRetN f E) QS = wp (f E) fun d E1 => QS (.rn d) E1 := by unfold fRetN; simp only [wp_bind, wp_val]
theorem wp_fRet0 : wp (fRet0 E) QS = QS (.rt .non) E := rfl
theorem wp_fSet : wp (fSet i f E) QS = wp (f E) fun d E1 => QS .nx (E1.set i (.fz d)) := by unfold fSet; simp only [wp_bind, wp_val]
theorem wp_fSetN : wp (fSetN i f E) QS = wp (f E) fun d E1 => QS .nx (E1.set i (.own d)) := by unfold fSetN; simp only [wp_bind, wp_val]
theorem wp_fAsg {b : Bd} : wp (fAsg f b E) QS = wp (f E) fun d E1 => ∃ E2, b d E1 = some E2 ∧ QS .nx E2 := by
  unfold fAsg
  simp only [wp_bind]
  congr; funext d E1
  cases b d E1 <;> simp [wp]
theorem wp_fPar : wp (fPar i j f h E) QS = wp (f E) fun d E1 => wp (h E1) fun e E2 => QS .nx ((E2.set i (.fz d)).set j (.fz e)) := by unfold fPar; simp only [wp_bind, wp_val]
theorem wp_fParNE : wp (fParNE i j f h E) QS = wp (f E) fun d E1 => wp (h E1) fun e E2 => QS .nx ((E2.set i (.own d)).set j (.fz e)) := by unfold fParNE; simp only [wp_bind, wp_val]
theorem wp_fParEN : wp (fParEN i j f h E) QS = wp (f E) fun d E1 => wp (h E1) fun e E2 => QS .nx ((E2.set i (.fz d)).set j (.own e)) := by unfold fParEN; simp only [wp_bind, wp_val]
theorem wp_fSetIx : wp (fSetIx i f h E) QS = wp (h E) fun d E1 => wp (fPk i E1) fun _ E2 => wp (f E2) fun k E3 => wp (setIx i d k E3) QS := by unfold fSetIx; simp only [wp_bind]
theorem wp_fSetFld {n : Str} : wp (fSetFld i n f E) QS = wp (f E) fun d E1 => wp (fPk i E1) fun _ E2 => wp (setFld i n d E2) QS := by unfold fSetFld; simp only [wp_bind]
theorem wp_fMt {m : D → List D → Option (D × D)} : wp (fMt i m fl E) QD = wp (fPk i E) fun _ E1 => ∃ c, Ar.get E1 (.pk i) = some c ∧ isLst c = true ∧ wp (fl E1) fun as E2 => wp (resMt i m as E2) QD := by
  unfold fMt
  simp only [wp_bind]
  congr; funext _ E1
  cases h : Ar.get E1 (.pk i) with
  | none => simp [wp]
  | some c =>
    simp only
    by_cases hc : isLst c = true
    · simp [hc, wp_bind]
    · simp [hc, wp]
/-! walks -/
theorem wp_iAnyF : wp (iAnyF f E) QI = wp (f E) fun d E1 => wp (R.some (itAny d) E1) QI := by unfold iAnyF; simp only [wp_bind]
theorem wp_iRng : wp (iRng fl E) QI = wp (fl E) fun as E1 => ∃ ds, valsOf as = some ds ∧ wp (R.some (itR ds) E1) QI := by
  unfold iRng; simp only [wp_bind]; congr; funext as E1; cases valsOf as <;> simp [wp]
theorem wp_iZip : wp (iZip fl E) QI = wp (fl E) fun as E1 => ∃ ds, valsOf as = some ds ∧ wp (R.some (itZ ds) E1) QI := by
  unfold iZip; simp only [wp_bind]; congr; funext as E1; cases valsOf as <;> simp [wp]
theorem wp_iEnumF : wp (iEnumF fl E) QI = wp (fl E) fun as E1 => ∃ ds, valsOf as = some ds ∧ wp (R.some (itE ds) E1) QI := by
  unfold iEnumF; simp only [wp_bind]; congr; funext as E1; cases valsOf as <;> simp [wp]
theorem wp_fFor {fi : Nv → R (List D)} {b : Bd} : wp (fFor fi b s E) QS = wp (fi E) fun ds E1 => wp (forL b s ds E1) QS := by unfold fFor; simp only [wp_bind]
theorem wp_fLc {fi : Nv → R (List D)} {b : Bd} {vs : List Nat} : wp (fLc fi b t f vs E) QD = wp (fi E) fun ds E1 => wp (lcL b t f vs ds [] (wipeE E1 vs)) fun xs E2 => QD (.lst xs) (restoreE E1 E2 vs) := by unfold fLc; simp only [wp_bind, wp_val]
theorem wp_fCall {fn : Fn} : wp (fCall fn fl E) QD = wp (fl E) fun as E1 => wp (resC fn as E1) QD := by unfold fCall; simp only [wp_bind]
theorem wp_fCallN {fn : Fn} : wp (fCallN fn fl E) QD = wp (fl E) fun as E1 => wp (resCN fn as E1) QD := by unfold fCallN; simp only [wp_bind]
theorem wp_resC {fn : Fn} {ars : List Ar} {as : List Sl} (hl : lend E 0 ars = some as) (ho : once ars = true) : wp (resC fn ars E) QD = wpF (fn as) fun d bs => shape as bs = true ∧ QD d (unlend ars bs E) := by
  unfold resC
  simp only [hl, ho]
  cases fn as with
  | val d bs => simp only [wpF]; by_cases h : shape as bs = true <;> simp [h, wp]
  | new d bs => simp [wpF, wp]
  | exc c fs bs => simp only [wpF]; by_cases h : shape as bs = true <;> simp [h, wp]
  | bad => simp [wpF, wp]
theorem wp_resCN {fn : Fn} {ars : List Ar} {as : List Sl} (hl : lend E 0 ars = some as) (ho : once ars = true) : wp (resCN fn ars E) QD = wpN (fn as) fun d bs => shape as bs = true ∧ QD d (unlend ars bs E) := by
  unfold resCN
  simp only [hl, ho]
  cases fn as with
  | new d bs => simp only [wpN]; by_cases h : shape as bs = true <;> simp [h, wp]
  | val d bs => simp [wpN, wp]
  | exc c fs bs => simp only [wpN]; by_cases h : shape as bs = true <;> simp [h, wp]
  | bad => simp [wpN, wp]
theorem wp_fFld {n : Str} : wp (fFld n fa E) QD = wp (fa E) fun a E1 => wp (resFld n a E1) QD := by unfold fFld; simp only [wp_bind]
theorem wp_fSl {p q : Nv → R (Option Int)} : wp (fSl fa p q E) QD = wp (fa E) fun a E1 => wp (p E1) fun lo E2 => wp (q E2) fun hi E3 => wp (resSl lo hi a E3) QD := by unfold fSl; simp only [wp_bind]
theorem wp_pNone : wp (pNone E) QP = QP none E := rfl
theorem wp_pSome : wp (pSome f E) QP = wp (f E) fun d E1 => ∃ i, asI d = some i ∧ QP (some i) E1 := by
  unfold pSome; simp only [wp_bind]; congr; funext d E1; cases asI d <;> simp [wp]
theorem wp_runF {N : Nat} {as : List Sl} {Q : D → List Sl → Prop} (h : wp (s (as ++ List.replicate (N - as.length) .no)) fun fl E => match fl with
    | .nx => ∃ b, backs as E = some b ∧ Q .non b
    | .rt d => ∃ b, backs as E = some b ∧ Q d b
    | _ => False) : wpF (runF N s as) Q := by
  unfold runF
  revert h
  cases s (as ++ List.replicate (N - as.length) .no) with
  | val fl E =>
    cases fl with
    | nx => rintro ⟨b, h1, h2⟩; simp only [h1]; exact h2
    | rt d => rintro ⟨b, h1, h2⟩; simp only [h1]; exact h2
    | _ => exact fun h => h.elim
  | _ => exact fun h => h.elim
theorem wpN_runF {N : Nat} {as : List Sl} {Q : D → List Sl → Prop} (h : wp (s (as ++ List.replicate (N - as.length) .no)) fun fl E => match fl with
    | .rn d => ∃ b, backs as E = some b ∧ Q d b
    | _ => False) : wpN (runF N s as) Q := by
  unfold runF
  revert h
  cases s (as ++ List.replicate (N - as.length) .no) with
  | val fl E =>
    cases fl with
    | rn d => rintro ⟨b, h1, h2⟩; simp only [h1]; exact h2
    | _ => exact fun h => h.elim
  | _ => exact fun h => h.elim
/-- a loop by an invariant: I before each turn, by what is left -/
theorem wp_forL {b : Bd} {ds : List D} (I : List D → Nv → Prop) (h0 : I ds E) (turn : ∀ d r E, I (d :: r) E → ∃ E1, b d E = some E1 ∧ wp (s E1) fun fl E2 => match fl with
    | .nx => I r E2
    | .ct => I r E2
    | .bk => QS .nx E2
    | fl => QS fl E2) (fin : ∀ E, I [] E → QS .nx E) : wp (forL b s ds E) QS := by
  induction ds generalizing E with
  | nil => exact fin E h0
  | cons d r ih =>
    obtain ⟨E1, e1, w⟩ := turn d r E h0
    unfold forL
    simp only [e1]
    revert w
    cases s E1 with
    | val fl E2 =>
      cases fl with
      | nx => exact fun w => ih w
      | ct => exact fun w => ih w
      | bk => exact fun w => w
      | rt x => exact fun w => w
      | rn x => exact fun w => w
    | _ => exact fun w => w.elim
theorem wp_lcL {b : Bd} {ds acc : List D} {vs : List Nat} {Q : List D → Nv → Prop} (I : List D → List D → Nv → Prop) (h0 : I ds acc E) (turn : ∀ d r acc E, I (d :: r) acc E → ∃ E1, b d E = some E1 ∧ wp (t E1) fun k E2 => if k = true then wp (f E2) fun x E3 => acc.length < sizeLine ∧ I r (acc ++ [x]) (wipeE E3 vs) else I r acc (wipeE E2 vs))
    (fin : ∀ acc E, I [] acc E → Q acc E) : wp (lcL b t f vs ds acc E) Q := by
  induction ds generalizing E acc with
  | nil => exact fin acc E h0
  | cons d r ih =>
    obtain ⟨E1, e1, w⟩ := turn d r acc E h0
    unfold lcL
    simp only [e1, wp_bind, wp_nox]
    refine wp_imp w fun k E2 w2 => ?_
    by_cases hk : k = true
    · rw [if_pos hk] at w2 ⊢
      rw [wp_bind, wp_nox]
      refine wp_imp w2 fun x E3 w3 => ?_
      rw [if_pos w3.1]
      exact ih w3.2
    · rw [if_neg hk] at w2 ⊢
      exact ih w2
end
end FL

namespace FL
open PySem PySem.Spec PyProof.Rows L2
/-! ## running by simp: ends that stay shut -/
def seqQ (t : Nv → R Fl) (Q : Fl → Nv → Prop) : Fl → Nv → Prop := fun fl E1 => match fl with
  | .nx => wp (t E1) Q
  | fl => Q fl E1
def endQ (as : List Sl) (Q : D → List Sl → Prop) : Fl → Nv → Prop := fun fl E => match fl with
  | .nx => ∃ b, backs as E = some b ∧ Q .non b
  | .rt d => ∃ b, backs as E = some b ∧ Q d b
  | _ => False
def endN (as : List Sl) (Q : D → List Sl → Prop) : Fl → Nv → Prop := fun fl E => match fl with
  | .rn d => ∃ b, backs as E = some b ∧ Q d b
  | _ => False
def loopQ (I : List D → Nv → Prop) (r : List D) (Q : Fl → Nv → Prop) : Fl → Nv → Prop := fun fl E2 => match fl with
  | .nx => I r E2
  | .ct => I r E2
  | .bk => Q .nx E2
  | fl => Q fl E2
section
variable {α : Type} {s t : Nv → R Fl} {Q : Fl → Nv → Prop} {E : Nv} {as : List Sl} {QF : D → List Sl → Prop} {d : D} {I : List D → Nv → Prop} {r : List D}
theorem wp_seq (h : wp (s E) (seqQ t Q)) : wp (fSeq s t E) Q := by rw [wp_fSeq]; exact h
theorem seqQ_nx (h : wp (t E) Q) : seqQ t Q .nx E := h
theorem seqQ_rt (h : Q (.rt d) E) : seqQ t Q (.rt d) E := h
theorem seqQ_nx' : seqQ t Q .nx E = wp (t E) Q := rfl
theorem seqQ_rt' : seqQ t Q (.rt d) E = Q (.rt d) E := rfl
theorem seqQ_rn' : seqQ t Q (.rn d) E = Q (.rn d) E := rfl
theorem seqQ_bk' : seqQ t Q .bk E = Q .bk E := rfl
theorem seqQ_ct' : seqQ t Q .ct E = Q .ct E := rfl
theorem endQ_rt {b : List Sl} (h : backs as E = some b) (q : QF d b) : endQ as QF (.rt d) E := ⟨b, h, q⟩
theorem endQ_nx {b : List Sl} (h : backs as E = some b) (q : QF .non b) : endQ as QF .nx E := ⟨b, h, q⟩
theorem endQ_rt' : endQ as QF (.rt d) E = ∃ b, backs as E = some b ∧ QF d b := rfl
theorem endQ_nx' : endQ as QF .nx E = ∃ b, backs as E = some b ∧ QF .non b := rfl
theorem endN_rn' : endN as QF (.rn d) E = ∃ b, backs as E = some b ∧ QF d b := rfl
theorem loopQ_nx' : loopQ I r Q .nx E = I r E := rfl
theorem loopQ_ct' : loopQ I r Q .ct E = I r E := rfl
theorem loopQ_bk' : loopQ I r Q .bk E = Q .nx E := rfl
theorem loopQ_rt' : loopQ I r Q (.rt d) E = Q (.rt d) E := rfl
theorem run_wp {N : Nat} (h : wp (s (as ++ List.replicate (N - as.length) .no)) (endQ as QF)) : wpF (runF N s as) QF := wp_runF h
theorem run_wpN {N : Nat} (h : wp (s (as ++ List.replicate (N - as.length) .no)) (endN as QF)) : wpN (runF N s as) QF := wpN_runF h
theorem for_wp {b : Bd} {ds : List D} (I : List D → Nv → Prop) (h0 : I ds E) (turn : ∀ d r E, I (d :: r) E → ∃ E1, b d E = some E1 ∧ wp (s E1) (loopQ I r Q)) (fin : ∀ E, I [] E → Q .nx E) : wp (forL b s ds E) Q := wp_forL I h0 turn fin
theorem wp_someIte {o : α} {c : Prop} [Decidable c] {Q : α → Nv → Prop} : wp (R.some (if c then some o else none) E) Q = (c ∧ Q o E) := by
  by_cases h : c
  · simp [h, R.some, wp]
  · simp [h, R.some, wp]
theorem atI_nat' {xs : List α} (n : Nat) : atI xs (n : Int) = xs[n]? := by
  unfold atI ixN
  rw [if_pos (by omega)]
  by_cases h : n < xs.length
  · rw [if_pos (by omega)]
    rfl
  · rw [if_neg (by omega), List.getElem?_eq_none (by omega)]
    rfl
theorem atI_0 {xs : List α} : atI xs 0 = xs[0]? := atI_nat' 0
theorem atI_1 {xs : List α} : atI xs 1 = xs[1]? := atI_nat' 1
theorem atI_2 {xs : List α} : atI xs 2 = xs[2]? := atI_nat' 2
theorem atI_3 {xs : List α} : atI xs 3 = xs[3]? := atI_nat' 3
theorem atI_4 {xs : List α} : atI xs 4 = xs[4]? := atI_nat' 4
theorem atI_pos {xs : List α} {i : Int} (h : 0 ≤ i) : atI xs i = xs[i.toNat]? := by
  obtain ⟨n, rfl⟩ := Int.eq_ofNat_of_zero_le h
  exact atI_nat' n
theorem ixN_pos {n : Nat} {i : Int} (h : 0 ≤ i) (h2 : i < n) : ixN n i = some i.toNat := by unfold ixN; rw [if_pos h, if_pos h2]
theorem ixN_0 {n : Nat} : ixN (n + 1) 0 = some 0 := ixN_pos (by omega) (by omega)
theorem ixN_1 {n : Nat} : ixN (n + 2) 1 = some 1 := ixN_pos (by omega) (by omega)
theorem ixN_2 {n : Nat} : ixN (n + 3) 2 = some 2 := ixN_pos (by omega) (by omega)
theorem ixN_3 {n : Nat} : ixN (n + 4) 3 = some 3 := ixN_pos (by omega) (by omega)
theorem ixN_4 {n : Nat} : ixN (n + 5) 4 = some 4 := ixN_pos (by omega) (by omega)
/-! equality of ints -/
theorem dEq_int {i j : Int} : dEq (.int i) (.int j) = some (i == j) := by
  show (if SeqAt.shaped (PyData.int i) = true ∧ SeqAt.shaped (PyData.int j) = true then some (PyData.eqv (PyData.int i) (PyData.int j)) else none) = _
  rw [if_pos ⟨rfl, rfl⟩]
  rfl
theorem oEq_int {i j : Int} : oEq (.int i) (.int j) = some (.bl (i == j)) := by unfold oEq; rw [dEq_int]; rfl
theorem oNe_int {i j : Int} : oNe (.int i) (.int j) = some (.bl (!(i == j))) := by unfold oNe; rw [dEq_int]; rfl
theorem dEq_bl {i j : Bool} : dEq (.bl i) (.bl j) = some (i == j) := by
  show (if SeqAt.shaped (PyData.bool i) = true ∧ SeqAt.shaped (PyData.bool j) = true then some (PyData.eqv (PyData.bool i) (PyData.bool j)) else none) = _
  rw [if_pos ⟨rfl, rfl⟩]
  rfl
theorem oEq_bl {i j : Bool} : oEq (.bl i) (.bl j) = some (.bl (i == j)) := by unfold oEq; rw [dEq_bl]; rfl
theorem oNe_bl {i j : Bool} : oNe (.bl i) (.bl j) = some (.bl (!(i == j))) := by unfold oNe; rw [dEq_bl]; rfl
theorem ex_some {α : Type} {a : α} {p : α → Prop} : (∃ b, some a = some b ∧ p b) = p a := propext ⟨fun ⟨_, h, q⟩ => by cases h; exact q, fun h => ⟨a, rfl, h⟩⟩
theorem sl16 {n : Nat} (h : n ≤ 1000000) : n ≤ sizeLine := Nat.le_trans h (by rw [sizeLine_eq]; decide)
end
end FL

namespace FL
open PySem PySem.Spec PyProof.Rows L2

/-! ## a run by simp: the outcome alone is looked at, what comes behind waits (a type that hangs on it keeps simp away) -/
abbrev Tg {b : Type} (_ : b) : Type := Unit
def run {α : Type} (Q : α → Nv → Prop) (_ : Tg Q) (r : R α) : Prop := wp r Q
def runC (Q : D → List Sl → Prop) (_ : Tg Q) (r : FR) : Prop := wpF r Q
def runN (Q : D → List Sl → Prop) (_ : Tg Q) (r : FR) : Prop := wpN r Q
def seqK (s : Nv → R Fl) (Q : Fl → Nv → Prop) (_ : Tg (s, Q)) (fl : Fl) (E : Nv) : Prop := seqQ s Q fl E
def endK (as : List Sl) (Q : D → List Sl → Prop) (_ : Tg (as, Q)) (fl : Fl) (E : Nv) : Prop := endQ as Q fl E
def endM (as : List Sl) (Q : D → List Sl → Prop) (_ : Tg (as, Q)) (fl : Fl) (E : Nv) : Prop := endN as Q fl E
def bakK (as : List Sl) (Q : D → List Sl → Prop) (d : D) (_ : Tg (as, Q, d)) (b : Option (List Sl)) : Prop := ∃ x, b = some x ∧ Q d x
def loopK (I : List D → Nv → Prop) (r : List D) (Q : Fl → Nv → Prop) (_ : Tg (I, r, Q)) (fl : Fl) (E : Nv) : Prop := loopQ I r Q fl E
def ifK {α : Type} (f g : Nv → R α) (Q : α → Nv → Prop) (_ : Tg (f, g, Q)) (b : Bool) (E : Nv) : Prop := if b = true then wp (f E) Q else wp (g E) Q
def andK (h : Nv → R D) (Q : D → Nv → Prop) (_ : Tg (h, Q)) (d : D) (E : Nv) : Prop := (asB d = some true ∧ wp (h E) Q) ∨ (asB d = some false ∧ Q (.bl false) E)
def orK (h : Nv → R D) (Q : D → Nv → Prop) (_ : Tg (h, Q)) (d : D) (E : Nv) : Prop := (asB d = some false ∧ wp (h E) Q) ∨ (asB d = some true ∧ Q (.bl true) E)
def tandK (u : Nv → R Bool) (Q : Bool → Nv → Prop) (_ : Tg (u, Q)) (b : Bool) (E : Nv) : Prop := if b = true then wp (u E) Q else Q false E
def torK (u : Nv → R Bool) (Q : Bool → Nv → Prop) (_ : Tg (u, Q)) (b : Bool) (E : Nv) : Prop := if b = true then Q true E else wp (u E) Q
def chK (o' : D → D → Option D) (fc : Nv → R Ar) (b : Ar) (Q : D → Nv → Prop) (_ : Tg (o', fc, b, Q)) (z : D) (E3 : Nv) : Prop := (asB z = some true ∧ wp (fc E3) fun c E4 => wp (res2 o' E4 b c) Q) ∨ (asB z = some false ∧ Q (.bl false) E3)
def forK (b : Bd) (s : Nv → R Fl) (Q : Fl → Nv → Prop) (_ : Tg (b, s, Q)) (ds : List D) (E : Nv) : Prop := wp (forL b s ds E) Q
def lcK (b : Bd) (t : Nv → R Bool) (f : Nv → R D) (vs : List Nat) (Q : D → Nv → Prop) (_ : Tg (b, t, f, vs, Q)) (ds : List D) (E : Nv) : Prop := wp (lcL b t f vs ds [] (wipeE E vs)) fun xs E2 => Q (.lst xs) (restoreE E E2 vs)
def calK (fn : Fn) (ars : List Ar) (Q : D → Nv → Prop) (_ : Tg (fn, ars, Q)) (E : Nv) (as : Option (List Sl)) : Prop := match as with
  | some as => once ars = true ∧ wpF (fn as) fun d bs => shape as bs = true ∧ Q d (unlend ars bs E)
  | none => False
def calM (fn : Fn) (ars : List Ar) (Q : D → Nv → Prop) (_ : Tg (fn, ars, Q)) (E : Nv) (as : Option (List Sl)) : Prop := match as with
  | some as => once ars = true ∧ wpN (fn as) fun d bs => shape as bs = true ∧ Q d (unlend ars bs E)
  | none => False
def retK (as : List Sl) (ars : List Ar) (Q : D → Nv → Prop) (E : Nv) (_ : Tg (as, ars, Q, E)) (d : D) (bs : List Sl) : Prop := shape as bs = true ∧ Q d (unlend ars bs E)
def backK (Q : D → Nv → Prop) (_ : Tg Q) (d : D) (E : Nv) : Prop := Q d E
def asgK (b : Bd) (Q : Fl → Nv → Prop) (_ : Tg (b, Q)) (d : D) (E : Nv) : Prop := ∃ E2, b d E = some E2 ∧ Q .nx E2
def someK (Q : Nv → Prop) (_ : Tg Q) (o : Option Nv) : Prop := ∃ E, o = some E ∧ Q E
def mtK (m : D → List D → Option (D × D)) (i : Nat) (fl : Nv → R (List Ar)) (Q : D → Nv → Prop) (_ : Tg (m, fl, Q)) (c : Option D) (E : Nv) : Prop := ∃ d, c = some d ∧ isLst d = true ∧ wp (fl E) fun as E2 => wp (resMt i m as E2) Q
def optK {α : Type} (Q : α → Prop) (_ : Tg Q) (o : Option α) : Prop := ∃ a, o = some a ∧ Q a
/-! what is looked at -/
def pkV (s : Option Sl) (i : Nat) (E : Nv) : R Ar := match s with
  | some s => match s.cont with
    | some _ => .val (.pk i) E
    | none => .bad
  | none => .bad
def vrV (s : Option Sl) (i : Nat) (E : Nv) : R D := match s with
  | some (.fz d) => .val d E
  | some (.own d) => .val d (E.set i (.fz d))
  | _ => .bad
def slC (s : Option Sl) : Option D := match s with
  | some s => s.cont
  | none => none
def slCell : Option Sl → Option D
  | some s => s.cell
  | none => none
def r2 (o : D → D → Option D) (a b : Option D) : Option D := match a, b with
  | some d, some e => o d e
  | _, _ => none
def rL (o : List D → Option D) (a : Option (List D)) : Option D := match a with
  | some ds => o ds
  | none => none
def cons2 (a : Option D) (b : Option (List D)) : Option (List D) := match a, b with
  | some d, some ds => some (d :: ds)
  | _, _ => none
def rFld (n : Str) (a : Option D) : Option D := match a with
  | some (.ins _ ns ds) => lookD n ns ds
  | _ => none
def rSl (lo hi : Option Int) (a : Option D) : Option D := match a with
  | some d => oSl d lo hi
  | none => none
def rIx (s : Option Sl) (d k : D) : Option Sl := match s, k with
  | some s, .int i => match s.cell with
    | some (.lst ds) => match ixN ds.length i with
      | some m => some (s.put (.lst (ds.set m d)))
      | none => none
    | _ => none
  | _, _ => none
def rMt (o : D → List D → Option (D × D)) (s : Option Sl) (ds : Option (List D)) : Option (D × D) := match s, ds with
  | some s, some ds => match s.cell with
    | some c => o c ds
    | none => none
  | _, _ => none
def putO (s : Option Sl) (d : D) : Sl := match s with
  | some s => s.put d
  | none => .no
def rIsT (x : Option D) (cs : Option (List D)) : Option D := match x with
  | none => none
  | some x => match tyName x, cs with
    | some t, some ds => match tyNames ds with
      | some l => if ds.length ≤ sizeLine then some (.bl (l.any fun T => subTy t T)) else none
      | none => none
    | _, _ => none
def sCons2 (a : Option Sl) (b : Option (List Sl)) : Option (List Sl) := match a, b with
  | some a, some ds => some (a :: ds)
  | _, _ => none
def lendS1 (m : Nat) : Option Sl → Option Sl
  | some (.fz d) => some (.fz d)
  | some (.own d) => some (.bor m d)
  | some (.bor _ d) => some (.bor m d)
  | _ => none
def bCons (a : Sl) (b : Option (List Sl)) : Option (List Sl) := match b with
  | some b => some (a :: b)
  | none => none
section
variable {E : Nv} {QD : D → Nv → Prop} {QB : Bool → Nv → Prop} {QA : Ar → Nv → Prop} {QL : List Ar → Nv → Prop} {QS : Fl → Nv → Prop} {QI : List D → Nv → Prop} {QP : Option Int → Nv → Prop}
  {f h : Nv → R D} {fa fb fc : Nv → R Ar} {t u : Nv → R Bool} {s s2 : Nv → R Fl} {fs : List (Nv → R Ar)} {fl : Nv → R (List Ar)} {i j : Nat} {d : D} {o o' : D → D → Option D}
theorem x_val {α : Type} {a : α} {Q : α → Nv → Prop} {g : Tg Q} : run Q g (.val a E) = Q a E := rfl
theorem x_bad {α : Type} {Q : α → Nv → Prop} {g : Tg Q} : run Q g .bad = False := rfl
theorem x_exc {α : Type} {Q : α → Nv → Prop} {g : Tg Q} {c : Nat} {fs : Option (Str × D)} : run Q g (.exc c fs E) = False := rfl
theorem x_Rsome {α : Type} {a : α} : R.some (some a) E = .val a E := rfl
theorem x_Rnone {α : Type} : (R.some none E : R α) = .bad := rfl
theorem x_ite {α : Type} {a : α} {c : Prop} {ic : Decidable c} {Q : α → Nv → Prop} {g : Tg Q} : run Q g (R.some (@ite _ c ic (some a) none) E) = (c ∧ Q a E) := wp_someIte
theorem x_fPk {g : Tg QA} : run QA g (fPk i E) = run QA g (pkV E[i]? i E) := by
  unfold run fPk pkV; cases E[i]? with
  | none => rfl
  | some s => cases s <;> rfl
theorem x_fVar {g : Tg QD} : run QD g (fVar i E) = run QD g (vrV E[i]? i E) := by
  unfold run fVar vrV; cases E[i]? with
  | none => rfl
  | some s => cases s <;> rfl
theorem pkV_fz : pkV (some (.fz d)) i E = .val (.pk i) E := rfl
theorem pkV_own : pkV (some (.own d)) i E = .val (.pk i) E := rfl
theorem pkV_bor {k : Nat} : pkV (some (.bor k d)) i E = .val (.pk i) E := rfl
theorem vrV_fz : vrV (some (.fz d)) i E = .val d E := rfl
theorem vrV_own : vrV (some (.own d)) i E = .val d (E.set i (.fz d)) := rfl
theorem get_v : Ar.get E (.v d) = some d := rfl
theorem get_pk : Ar.get E (.pk i) = slC E[i]? := by unfold Ar.get slC; rfl
theorem slC_fz : slC (some (.fz d)) = some d := rfl
theorem slC_own : slC (some (.own d)) = some d := rfl
theorem slC_bor {k : Nat} : slC (some (.bor k d)) = some d := rfl
theorem x_fC {g : Tg QD} : run QD g (fC d E) = QD d E := rfl
theorem x_fV {g : Tg QA} : run QA g (fV f E) = run (fun d E1 => QA (.v d) E1) () (f E) := wp_fV
theorem x_fOp2 {g : Tg QD} : run QD g (fOp2 o fa fb E) = run (fun a E1 => run (fun b E2 => run QD () (R.some (r2 o (a.get E2) (b.get E2)) E2)) () (fb E1)) () (fa E) := by
  unfold run; rw [wp_fOp2]
  congr; funext a E1; congr; funext b E2
  unfold res2 r2; cases a.get E2 <;> cases b.get E2 <;> rfl
theorem r2_ss {d e : D} : r2 o (some d) (some e) = o d e := rfl
theorem x_fAs0 {g : Tg QL} : run QL g (fAs [] E) = QL [] E := rfl
theorem x_fAs1 {g : Tg QL} : run QL g (fAs (fa :: fs) E) = run (fun a E1 => run (fun as E2 => QL (a :: as) E2) () (fAs fs E1)) () (fa E) := wp_fAs1
theorem x_arGets0 : arGets E [] = some [] := rfl
theorem x_arGets1 {a : Ar} {as : List Ar} : arGets E (a :: as) = cons2 (a.get E) (arGets E as) := by
  rw [arGets]; unfold cons2; cases a.get E with
  | none => rfl
  | some d => cases arGets E as <;> rfl
theorem cons2_s {ds : List D} : cons2 (some d) (some ds) = some (d :: ds) := rfl
theorem x_valsOf0 : valsOf [] = some [] := rfl
theorem x_valsOf1 {as : List Ar} : valsOf (.v d :: as) = cons2 (some d) (valsOf as) := by rw [valsOf]; unfold cons2; cases valsOf as <;> rfl
theorem rL_s {o : List D → Option D} {ds : List D} : rL o (some ds) = o ds := rfl
theorem x_fOpL {o : List D → Option D} {g : Tg QD} : run QD g (fOpL o fl E) = run (fun as E1 => run QD () (R.some (rL o (arGets E1 as)) E1)) () (fl E) := by
  unfold run; rw [wp_fOpL]; congr; funext as E1; unfold resL rL; cases arGets E1 as <;> rfl
theorem x_fOpV {o : List D → Option D} {g : Tg QD} : run QD g (fOpV o fl E) = run (fun as E1 => run QD () (R.some (rL o (valsOf as)) E1)) () (fl E) := by
  unfold run; rw [wp_fOpV]; congr; funext as E1; unfold resV rL; cases valsOf as <;> rfl
theorem x_fAnd {g : Tg QD} : run QD g (fAnd f h E) = run (andK h QD ()) () (f E) := wp_fAnd
theorem x_fOr {g : Tg QD} : run QD g (fOr f h E) = run (orK h QD ()) () (f E) := wp_fOr
theorem andK_t {g : Tg (h, QD)} : andK h QD g (.bl true) E = run QD () (h E) := by unfold andK asB run; simp
theorem andK_f {g : Tg (h, QD)} : andK h QD g (.bl false) E = QD (.bl false) E := by unfold andK asB; simp
theorem orK_t {g : Tg (h, QD)} : orK h QD g (.bl true) E = QD (.bl true) E := by unfold orK asB; simp
theorem orK_f {g : Tg (h, QD)} : orK h QD g (.bl false) E = run QD () (h E) := by unfold orK asB run; simp
theorem andK_if {b : Bool} {g : Tg (h, QD)} (h1 : b = true → run QD () (h E)) (h2 : b = false → QD (.bl false) E) : andK h QD g (.bl b) E := by
  cases b with
  | true => rw [andK_t]; exact h1 rfl
  | false => rw [andK_f]; exact h2 rfl
theorem orK_if {b : Bool} {g : Tg (h, QD)} (h1 : b = false → run QD () (h E)) (h2 : b = true → QD (.bl true) E) : orK h QD g (.bl b) E := by
  cases b with
  | true => rw [orK_t]; exact h2 rfl
  | false => rw [orK_f]; exact h1 rfl
theorem x_tAnd {g : Tg QB} : run QB g (tAndF t u E) = run (tandK u QB ()) () (t E) := wp_tAndF
theorem x_tOr {g : Tg QB} : run QB g (tOrF t u E) = run (torK u QB ()) () (t E) := wp_tOrF
theorem x_tNot {g : Tg QB} : run QB g (tNotF t E) = run (fun b E1 => QB (!b) E1) () (t E) := wp_tNotF
theorem tandK_t {g : Tg (u, QB)} : tandK u QB g true E = run QB () (u E) := rfl
theorem tandK_f {g : Tg (u, QB)} : tandK u QB g false E = QB false E := rfl
theorem torK_t {g : Tg (u, QB)} : torK u QB g true E = QB true E := rfl
theorem torK_f {g : Tg (u, QB)} : torK u QB g false E = run QB () (u E) := rfl
theorem tandK_if {b : Bool} {g : Tg (u, QB)} (h1 : b = true → run QB () (u E)) (h2 : b = false → QB false E) : tandK u QB g b E := by
  cases b with
  | true => exact h1 rfl
  | false => exact h2 rfl
theorem torK_if {b : Bool} {g : Tg (u, QB)} (h1 : b = false → run QB () (u E)) (h2 : b = true → QB true E) : torK u QB g b E := by
  cases b with
  | true => exact h2 rfl
  | false => exact h1 rfl
theorem x_fIf {α : Type} {Q : α → Nv → Prop} {f g : Nv → R α} {k : Tg Q} : run Q k (fIf t f g E) = run (ifK f g Q ()) () (t E) := wp_fIf
theorem ifK_t {α : Type} {Q : α → Nv → Prop} {f g : Nv → R α} {k : Tg (f, g, Q)} : ifK f g Q k true E = run Q () (f E) := rfl
theorem ifK_f {α : Type} {Q : α → Nv → Prop} {f g : Nv → R α} {k : Tg (f, g, Q)} : ifK f g Q k false E = run Q () (g E) := rfl
theorem ifK_if {α : Type} {Q : α → Nv → Prop} {f g : Nv → R α} {k : Tg (f, g, Q)} {b : Bool} (h1 : b = true → run Q () (f E)) (h2 : b = false → run Q () (g E)) : ifK f g Q k b E := by
  cases b with
  | true => exact h1 rfl
  | false => exact h2 rfl
theorem x_fTest {g : Tg QB} : run QB g (fTest f E) = run (fun d E1 => run QB () (R.some (asB d) E1)) () (f E) := by unfold run fTest; simp only [wp_bind]
theorem asB_bl {b : Bool} : asB (.bl b) = some b := rfl
theorem x_fNot {g : Tg QD} : run QD g (fNot f E) = run (fun d E1 => run (fun b E2 => QD (.bl (!b)) E2) () (R.some (asB d) E1)) () (f E) := by
  unfold run; rw [wp_fNot]; congr; funext d E1; cases asB d <;> simp [R.some, wp]
theorem x_fChain {g : Tg QD} : run QD g (fChain o o' fa fb fc E) = run (fun a E1 => run (fun b E2 => run (chK o' fc b QD ()) () (R.some (r2 o (a.get E2) (b.get E2)) E2)) () (fb E1)) () (fa E) := by
  unfold run; rw [wp_fChain]; congr; funext a E1; congr; funext b E2
  unfold res2 r2 chK; cases a.get E2 <;> cases b.get E2 <;> rfl
theorem chK_t {b : Ar} {g : Tg (o', fc, b, QD)} : chK o' fc b QD g (.bl true) E = run (fun c E4 => run QD () (R.some (r2 o' (b.get E4) (c.get E4)) E4)) () (fc E) := by
  unfold chK asB run; simp only [true_and, Option.some.injEq, Bool.true_eq_false, false_and, or_false]
  congr; funext a E1; unfold res2 r2; cases b.get E1 <;> cases a.get E1 <;> rfl
theorem chK_f {b : Ar} {g : Tg (o', fc, b, QD)} : chK o' fc b QD g (.bl false) E = QD (.bl false) E := by unfold chK asB; simp
theorem chK_if {b : Ar} {g : Tg (o', fc, b, QD)} {z : Bool} (h1 : z = true → run (fun c E4 => run QD () (R.some (r2 o' (b.get E4) (c.get E4)) E4)) () (fc E)) (h2 : z = false → QD (.bl false) E) : chK o' fc b QD g (.bl z) E := by
  cases z with
  | true => rw [chK_t]; exact h1 rfl
  | false => rw [chK_f]; exact h2 rfl
/-! statements -/
theorem x_fNx {g : Tg QS} : run QS g (fNx E) = QS .nx E := rfl
theorem x_fBrk {g : Tg QS} : run QS g (fBrk E) = QS .bk E := rfl
theorem x_fCnt {g : Tg QS} : run QS g (fCnt E) = QS .ct E := rfl
theorem x_fBad {α : Type} {Q : α → Nv → Prop} {g : Tg Q} : run Q g (fBad E) = False := rfl
theorem x_seq {g : Tg QS} : run QS g (fSeq s s2 E) = run (seqK s2 QS ()) () (s E) := wp_fSeq
theorem seqK_nx {g : Tg (s, QS)} : seqK s QS g .nx E = run QS () (s E) := rfl
theorem seqK_rt {g : Tg (s, QS)} : seqK s QS g (.rt d) E = QS (.rt d) E := rfl
theorem seqK_rn {g : Tg (s, QS)} : seqK s QS g (.rn d) E = QS (.rn d) E := rfl
theorem seqK_bk {g : Tg (s, QS)} : seqK s QS g .bk E = QS .bk E := rfl
theorem seqK_ct {g : Tg (s, QS)} : seqK s QS g .ct E = QS .ct E := rfl
theorem loopK_nx {I : List D → Nv → Prop} {r : List D} {g : Tg (I, r, QS)} : loopK I r QS g .nx E = I r E := rfl
theorem loopK_ct {I : List D → Nv → Prop} {r : List D} {g : Tg (I, r, QS)} : loopK I r QS g .ct E = I r E := rfl
theorem loopK_bk {I : List D → Nv → Prop} {r : List D} {g : Tg (I, r, QS)} : loopK I r QS g .bk E = QS .nx E := rfl
theorem loopK_rt {I : List D → Nv → Prop} {r : List D} {g : Tg (I, r, QS)} : loopK I r QS g (.rt d) E = QS (.rt d) E := rfl
theorem loopK_rn {I : List D → Nv → Prop} {r : List D} {g : Tg (I, r, QS)} : loopK I r QS g (.rn d) E = QS (.rn d) E := rfl
theorem endK_nx {as : List Sl} {Q : D → List Sl → Prop} {g : Tg (as, Q)} : endK as Q g .nx E = bakK as Q .non () (backs as E) := rfl
theorem endK_rt {as : List Sl} {Q : D → List Sl → Prop} {g : Tg (as, Q)} : endK as Q g (.rt d) E = bakK as Q d () (backs as E) := rfl
theorem endM_rn {as : List Sl} {Q : D → List Sl → Prop} {g : Tg (as, Q)} : endM as Q g (.rn d) E = bakK as Q d () (backs as E) := rfl
theorem bakK_s {as b : List Sl} {Q : D → List Sl → Prop} {g : Tg (as, Q, d)} : bakK as Q d g (some b) = Q d b := ex_some
theorem bk_nil' {E : Nv} : backs [] E = some [] := rfl
theorem bk_fz' {x : D} {as : List Sl} {e : Sl} : backs (.fz x :: as) (e :: E) = bCons .no (backs as E) := by rw [backs]; unfold bCons; cases backs as E <;> rfl; all_goals (intros; contradiction)
theorem bk_bor' {x : D} {as : List Sl} {k : Nat} : backs (.bor k x :: as) (.bor k d :: E) = bCons (.bor k d) (backs as E) := by rw [backs]; simp only [if_pos]; unfold bCons; cases backs as E <;> rfl
theorem bCons_s {a : Sl} {b : List Sl} : bCons a (some b) = some (a :: b) := rfl
theorem x_fDrop {g : Tg QS} : run QS g (fDrop f E) = run (fun _ E1 => QS .nx E1) () (f E) := wp_fDrop
theorem x_fRet {g : Tg QS} : run QS g (fRet f E) = run (fun d E1 => QS (.rt d) E1) () (f E) := wp_fRet
theorem x_fRetN {g : Tg QS} : run QS g (fRetN f E) = run (fun d E1 => QS (.rn d) E1) () (f E) := wp_fRetN
theorem x_fRet0 {g : Tg QS} : run QS g (fRet0 E) = QS (.rt .non) E := rfl
theorem x_fSet {g : Tg QS} : run QS g (fSet i f E) = run (fun d E1 => QS .nx (E1.set i (.fz d))) () (f E) := wp_fSet
theorem x_fSetN {g : Tg QS} : run QS g (fSetN i f E) = run (fun d E1 => QS .nx (E1.set i (.own d))) () (f E) := wp_fSetN
theorem x_fPar {g : Tg QS} : run QS g (fPar i j f h E) = run (fun d E1 => run (fun e E2 => QS .nx ((E2.set i (.fz d)).set j (.fz e))) () (h E1)) () (f E) := wp_fPar
theorem x_fParNE {g : Tg QS} : run QS g (fParNE i j f h E) = run (fun d E1 => run (fun e E2 => QS .nx ((E2.set i (.own d)).set j (.fz e))) () (h E1)) () (f E) := wp_fParNE
theorem x_fParEN {g : Tg QS} : run QS g (fParEN i j f h E) = run (fun d E1 => run (fun e E2 => QS .nx ((E2.set i (.fz d)).set j (.own e))) () (h E1)) () (f E) := wp_fParEN
theorem x_fAsg {b : Bd} {g : Tg QS} : run QS g (fAsg f b E) = run (asgK b QS ()) () (f E) := wp_fAsg
theorem x_asgK {b : Bd} {g : Tg (b, QS)} : asgK b QS g d E = someK (fun E2 => QS .nx E2) () (b d E) := rfl
theorem someK_s {Q : Nv → Prop} {g : Tg Q} : someK Q g (some E) = Q E := ex_some
theorem x_bName : bName i d E = some (E.set i (.fz d)) := rfl
theorem x_bTup {bs : List Bd} {ds : List D} : bTup bs (.tup ds) E = bAll bs ds E := rfl
theorem x_bAll0 : bAll [] [] E = some E := rfl
theorem x_bAll1 {b : Bd} {bs : List Bd} {ds : List D} : bAll (b :: bs) (d :: ds) E = (b d E).bind fun E1 => bAll bs ds E1 := rfl
theorem x_obind {α β : Type} {a : α} {g : α → Option β} : (some a).bind g = g a := by
  have h : ∀ o : Option α, o = some a → o.bind g = g a := fun o e => by rw [e]; rfl
  exact h _ rfl
theorem x_fFor {fi : Nv → R (List D)} {b : Bd} {g : Tg QS} : run QS g (fFor fi b s E) = run (forK b s QS ()) () (fi E) := wp_fFor
theorem x_fLc {fi : Nv → R (List D)} {b : Bd} {vs : List Nat} {g : Tg QD} : run QD g (fLc fi b t f vs E) = run (lcK b t f vs QD ()) () (fi E) := wp_fLc
theorem x_fCall {fn : Fn} {g : Tg QD} : run QD g (fCall fn fl E) = run (fun as E1 => calK fn as QD () E1 (lend E1 0 as)) () (fl E) := by
  unfold run; rw [wp_fCall]; congr; funext as E1
  unfold calK
  cases z : lend E1 0 as with
  | none => simp [resC, z, wp]
  | some xs =>
    by_cases ho : once as = true
    · rw [wp_resC z ho]; simp [ho]
    · simp [resC, z, ho, wp]
theorem x_fCallN {fn : Fn} {g : Tg QD} : run QD g (fCallN fn fl E) = run (fun as E1 => calM fn as QD () E1 (lend E1 0 as)) () (fl E) := by
  unfold run; rw [wp_fCallN]; congr; funext as E1
  unfold calM
  cases z : lend E1 0 as with
  | none => simp [resCN, z, wp]
  | some xs =>
    by_cases ho : once as = true
    · rw [wp_resCN z ho]; simp [ho]
    · simp [resCN, z, ho, wp]
theorem calK_s {fn : Fn} {ars : List Ar} {as : List Sl} {g : Tg (fn, ars, QD)} (ho : once ars = true) : calK fn ars QD g E (some as) = runC (retK as ars QD E ()) () (fn as) := by
  unfold calK runC retK; simp [ho]
theorem calM_s {fn : Fn} {ars : List Ar} {as : List Sl} {g : Tg (fn, ars, QD)} (ho : once ars = true) : calM fn ars QD g E (some as) = runN (retK as ars QD E ()) () (fn as) := by
  unfold calM runN retK; simp [ho]
theorem retK_s {as bs : List Sl} {ars : List Ar} {g : Tg (as, ars, QD, E)} (hs : shape as bs = true) : retK as ars QD E g d bs = backK QD () d (unlend ars bs E) := by unfold retK backK; simp [hs]
theorem x_backK {g : Tg QD} : backK QD g d E = QD d E := rfl
theorem runC_val {bs : List Sl} {Q : D → List Sl → Prop} {g : Tg Q} : runC Q g (.val d bs) = Q d bs := rfl
theorem runN_new {bs : List Sl} {Q : D → List Sl → Prop} {g : Tg Q} : runN Q g (.new d bs) = Q d bs := rfl
theorem lend0 {m : Nat} : lend E m [] = some [] := rfl
theorem lend_v1 {m : Nat} {r : List Ar} : lend E m (.v d :: r) = sCons2 (some (.fz d)) (lend E (m + 1) r) := by rw [lend]; unfold sCons2; cases lend E (m + 1) r <;> rfl
theorem lend_pk1 {m : Nat} {r : List Ar} : lend E m (.pk j :: r) = sCons2 (lendS1 m E[j]?) (lend E (m + 1) r) := by
  rw [lend]; unfold sCons2
  cases E[j]? with
  | none => rfl
  | some s => cases s <;> cases lend E (m + 1) r <;> rfl
theorem sCons2_s {a : Sl} {b : List Sl} : sCons2 (some a) (some b) = some (a :: b) := rfl
theorem lendS1_fz {m : Nat} : lendS1 m (some (.fz d)) = some (.fz d) := rfl
theorem lendS1_own {m : Nat} : lendS1 m (some (.own d)) = some (.bor m d) := rfl
theorem lendS1_bor {m k : Nat} : lendS1 m (some (.bor k d)) = some (.bor m d) := rfl
theorem unl_pk {r : List Ar} {bs : List Sl} {k : Nat} : unlend (.pk j :: r) (.bor k d :: bs) E = unlend r bs (E.set j (putO E[j]? d)) := by
  rw [unlend]; unfold putO
  cases z : E[j]? with
  | some s => rfl
  | none =>
    have : E.length ≤ j := List.getElem?_eq_none_iff.mp z
    simp only
    rw [List.set_eq_of_length_le this]
theorem unl_pkno {r : List Ar} {bs : List Sl} : unlend (.pk j :: r) (.no :: bs) E = unlend r bs E := by
  rw [unlend]
  intro _ _ _ _ h2
  cases h2
theorem unl_v {r : List Ar} {b : Sl} {bs : List Sl} : unlend (.v d :: r) (b :: bs) E = unlend r bs E := by
  rw [unlend]
  intro _ _ _ h1 _
  cases h1
theorem unl_nil {bs : List Sl} : unlend [] bs E = E := by cases bs <;> rfl
theorem putO_fz {x : D} : putO (some (.fz x)) d = .fz x := rfl
theorem putO_own {x : D} : putO (some (.own x)) d = .own d := rfl
theorem putO_bor {x : D} {k : Nat} : putO (some (.bor k x)) d = .bor k d := rfl
theorem x_fFld {n : Str} {g : Tg QD} : run QD g (fFld n fa E) = run (fun a E1 => run QD () (R.some (rFld n (a.get E1)) E1)) () (fa E) := by
  unfold run; rw [wp_fFld]; congr; funext a E1; unfold resFld rFld; cases a.get E1 with
  | none => rfl
  | some d => cases d <;> rfl
theorem rFld_s {n : Str} {c : Nat} {ns : List Str} {ds : List D} : rFld n (some (.ins c ns ds)) = lookD n ns ds := rfl
theorem x_fSl {p q : Nv → R (Option Int)} {g : Tg QD} : run QD g (fSl fa p q E) = run (fun a E1 => run (fun lo E2 => run (fun hi E3 => run QD () (R.some (rSl lo hi (a.get E3)) E3)) () (q E2)) () (p E1)) () (fa E) := by
  unfold run; rw [wp_fSl]; congr; funext a E1; congr; funext lo E2; congr; funext hi E3; unfold resSl rSl; cases a.get E3 <;> rfl
theorem rSl_s {lo hi : Option Int} : rSl lo hi (some d) = oSl d lo hi := rfl
theorem x_pNone {g : Tg QP} : run QP g (pNone E) = QP none E := rfl
theorem x_pSome {g : Tg QP} : run QP g (pSome f E) = run (fun d E1 => run (fun i E2 => QP (some i) E2) () (R.some (asI d) E1)) () (f E) := by
  unfold run pSome; rw [wp_bind]; congr; funext d E1; cases asI d <;> rfl
theorem asI_int {i : Int} : asI (.int i) = some i := rfl
theorem x_iAny {g : Tg QI} : run QI g (iAnyF f E) = run (fun d E1 => run QI () (R.some (itAny d) E1)) () (f E) := wp_iAnyF
theorem x_iRng {g : Tg QI} : run QI g (iRng fl E) = run (fun as E1 => run QI () (R.some ((valsOf as).bind itR) E1)) () (fl E) := by
  unfold run iRng; rw [wp_bind]; congr; funext d E1; cases valsOf d <;> rfl
theorem x_iZip {g : Tg QI} : run QI g (iZip fl E) = run (fun as E1 => run QI () (R.some ((valsOf as).bind itZ) E1)) () (fl E) := by
  unfold run iZip; rw [wp_bind]; congr; funext d E1; cases valsOf d <;> rfl
theorem x_iEnum {g : Tg QI} : run QI g (iEnumF fl E) = run (fun as E1 => run QI () (R.some ((valsOf as).bind itE) E1)) () (fl E) := by
  unfold run iEnumF; rw [wp_bind]; congr; funext d E1; cases valsOf d <;> rfl
theorem x_fSetIx {g : Tg QS} : run QS g (fSetIx i f h E) = run (fun d E1 => run (fun _ E2 => run (fun k E3 => run (fun x E4 => QS .nx (E4.set i x)) () (R.some (rIx E3[i]? d k) E3)) () (f E2)) () (fPk i E1)) () (h E) := by
  unfold run; rw [wp_fSetIx]; congr; funext d E1; congr; funext a E2; congr; funext k E3
  unfold setIx rIx
  cases E3[i]? with
  | none => rfl
  | some s =>
    cases z : s.cell with
    | none => cases k <;> simp [z, R.some, wp]
    | some c =>
      cases c <;> cases k <;> simp [z, R.some, wp]
      rename_i ds m
      cases ixN ds.length m <;> rfl
theorem rIx_own {ds : List D} {i : Int} : rIx (some (.own (.lst ds))) d (.int i) = (ixN ds.length i).map fun m => .own (.lst (ds.set m d)) := by
  unfold rIx Sl.cell; simp only; cases ixN ds.length i <;> rfl
theorem rIx_bor {ds : List D} {i : Int} {k : Nat} : rIx (some (.bor k (.lst ds))) d (.int i) = (ixN ds.length i).map fun m => .bor k (.lst (ds.set m d)) := by
  unfold rIx Sl.cell; simp only; cases ixN ds.length i <;> rfl
theorem x_fMt {m : D → List D → Option (D × D)} {g : Tg QD} : run QD g (fMt i m fl E) = run (fun _ E1 => mtK m i fl QD () (slC E1[i]?) E1) () (fPk i E) := by
  unfold run; rw [wp_fMt]; congr
theorem mtK_s {m : D → List D → Option (D × D)} {ds : List D} {g : Tg (m, fl, QD)} : mtK m i fl QD g (some (.lst ds)) E = run (fun as E2 => run (fun z E3 => QD z.1 (E3.set i (putO E3[i]? z.2))) () (R.some (rMt m E2[i]? (valsOf as)) E2)) () (fl E) := by
  unfold mtK run; rw [ex_some]; simp only [isLst, true_and]
  congr; funext as E2
  unfold resMt rMt
  cases valsOf as with
  | none => cases E2[i]? <;> rfl
  | some ds => cases z : E2[i]? with
    | none => rfl
    | some s =>
      simp only
      cases s.cell with
      | none => rfl
      | some c => simp only; cases m c ds <;> simp [R.some, wp, putO, z]
theorem rMt_own {m : D → List D → Option (D × D)} {ds : List D} : rMt m (some (.own d)) (some ds) = m d ds := rfl
theorem rMt_bor {m : D → List D → Option (D × D)} {ds : List D} {k : Nat} : rMt m (some (.bor k d)) (some ds) = m d ds := rfl
theorem x_fIsiT {fc : Nv → R (List Ar)} {g : Tg QD} : run QD g (fIsiT fa fc E) = run (fun a E1 => run (fun cs E2 => run QD () (R.some (rIsT (a.get E2) (valsOf cs)) E2)) () (fc E1)) () (fa E) := by
  unfold run fIsiT; simp only [wp_bind]; congr; funext a E1; congr; funext cs E2
  unfold resIsiT rIsT
  cases a.get E2 with
  | none => rfl
  | some x =>
    simp only
    cases tyName x with
    | none => cases valsOf cs <;> rfl
    | some t => cases valsOf cs with
      | none => rfl
      | some ds =>
        simp only
        cases tyNames ds with
        | none => rfl
        | some l => simp only; split <;> rfl
theorem x_fSetFld {n : Str} {g : Tg QS} : run QS g (fSetFld i n f E) = run (fun d E1 => run (fun _ E2 => run QS () (setFld i n d E2)) () (fPk i E1)) () (f E) := wp_fSetFld
/-! the whole def -/
theorem eq_of_wpF {r : FR} {x : D} {y : List Sl} (h : wpF r fun d bs => d = x ∧ bs = y) : r = .val x y := by
  cases r with
  | val d bs => obtain ⟨rfl, rfl⟩ := h; rfl
  | _ => exact h.elim
theorem eq_of_wpN {r : FR} {x : D} {y : List Sl} (h : wpN r fun d bs => d = x ∧ bs = y) : r = .new x y := by
  cases r with
  | new d bs => obtain ⟨rfl, rfl⟩ := h; rfl
  | _ => exact h.elim
theorem fn_run {N : Nat} {as : List Sl} {Q : D → List Sl → Prop} (h : run (endK as Q ()) () (s (as ++ List.replicate (N - as.length) .no))) : wpF (runF N s as) Q := run_wp h
theorem fn_runN {N : Nat} {as : List Sl} {Q : D → List Sl → Prop} (h : run (endM as Q ()) () (s (as ++ List.replicate (N - as.length) .no))) : wpN (runF N s as) Q := run_wpN h
theorem fn_eq {N : Nat} {as : List Sl} {x : D} {y : List Sl} (h : run (endK as (fun d bs => d = x ∧ bs = y) ()) () (s (as ++ List.replicate (N - as.length) .no))) : runF N s as = .val x y := eq_of_wpF (run_wp h)
theorem fn_eqN {N : Nat} {as : List Sl} {x : D} {y : List Sl} (h : run (endM as (fun d bs => d = x ∧ bs = y) ()) () (s (as ++ List.replicate (N - as.length) .no))) : runF N s as = .new x y := eq_of_wpN (run_wpN h)
/-- a call by its promise -/
theorem call_by {fn : Fn} {as : List Sl} {Q P : D → List Sl → Prop} {g : Tg Q} (h : wpF (fn as) P) (k : ∀ d bs, P d bs → Q d bs) : runC Q g (fn as) := wpF_imp h k
theorem call_eq {fn : Fn} {as bs : List Sl} {d : D} {Q : D → List Sl → Prop} {g : Tg Q} (h : fn as = .val d bs) (k : Q d bs) : runC Q g (fn as) := by unfold runC; rw [h]; exact k
/-- a loop by an invariant -/
theorem for_run {b : Bd} {ds : List D} {g : Tg (b, s, QS)} (I : List D → Nv → Prop) (h0 : I ds E) (turn : ∀ d r E, I (d :: r) E → someK (fun E1 => run (loopK I r QS ()) () (s E1)) () (b d E)) (fin : ∀ E, I [] E → QS .nx E) : forK b s QS g ds E :=
  for_wp I h0 turn fin
/-- a loop over x :: the rest, by a state of your own -/
theorem for_state {σ : Type} {b : Bd} {ds : List D} {g : Tg (b, s, QS)} (env : σ → Nv → Prop) (I : List D → σ → Prop) (x0 : σ) (h0 : env x0 E) (i0 : I ds x0)
    (turn : ∀ d r x E, I (d :: r) x → env x E → someK (fun E1 => run (loopK (fun r E => ∃ y, env y E ∧ I r y) r QS ()) () (s E1)) () (b d E)) (fin : ∀ x E, env x E → I [] x → QS .nx E) : forK b s QS g ds E :=
  for_run (fun r E => ∃ y, env y E ∧ I r y) ⟨x0, h0, i0⟩ (fun d r E ⟨y, h1, h2⟩ => turn d r y E h2 h1) fun E ⟨y, h1, h2⟩ => fin y E h1 h2
/-- a comprehension by an invariant -/
theorem lc_run {b : Bd} {ds : List D} {vs : List Nat} {g : Tg (b, t, f, vs, QD)} (I : List D → List D → Nv → Prop) (h0 : I ds [] (wipeE E vs))
    (turn : ∀ d r acc E, I (d :: r) acc E → someK (fun E1 => run (fun k E2 => ifK f (fun E => R.bad) (fun x E3 => acc.length < sizeLine ∧ I r (acc ++ [x]) (wipeE E3 vs)) () k E2 ∨ (k = false ∧ I r acc (wipeE E2 vs))) () (t E1)) () (b d E))
    (fin : ∀ acc E2, I [] acc E2 → QD (.lst acc) (restoreE E E2 vs)) : lcK b t f vs QD g ds E := by
  refine wp_lcL I h0 (fun d r acc E h => ?_) fin
  obtain ⟨E1, e, w⟩ := turn d r acc E h
  refine ⟨E1, e, wp_imp w fun k E2 q => ?_⟩
  cases k with
  | true =>
    rcases q with q | ⟨q, _⟩
    · exact q
    · cases q
  | false =>
    rcases q with q | ⟨_, q⟩
    · exact (show False from q).elim
    · exact q
/-- a comprehension, no test, whose element is known and leaves the slots -/
theorem lc_map {b : Bd} {ds : List D} {vs : List Nat} {g : Tg (b, tYesF, f, vs, QD)} (k : D → D) (hl : ds.length ≤ sizeLine)
    (turn : ∀ d, d ∈ ds → someK (fun E1 => run (fun x E3 => x = k d ∧ wipeE E3 vs = wipeE E vs) () (f E1)) () (b d (wipeE E vs)))
    (fin : QD (.lst (ds.map k)) (restoreE E (wipeE E vs) vs)) : lcK b tYesF f vs QD g ds E := by
  refine lc_run (fun r acc E2 => ∃ l, ds = l ++ r ∧ acc = l.map k ∧ E2 = wipeE E vs) ⟨[], rfl, rfl, rfl⟩ ?_ ?_
  · rintro d r acc E2 ⟨l, rfl, rfl, rfl⟩
    obtain ⟨E1, e, w⟩ := turn d (by simp)
    refine ⟨E1, e, .inl (wp_imp w ?_)⟩
    rintro x E3 ⟨rfl, e3⟩
    refine ⟨?_, l ++ [d], by simp, by simp, e3⟩
    have : (l ++ d :: r).length = l.length + r.length + 1 := by simp; omega
    rw [List.length_map]; omega
  · rintro acc E2 ⟨l, rfl, rfl, rfl⟩
    simpa using fin
theorem once_0 : once [] = true := rfl
def pkIs (j : Nat) (a : Ar) : Bool := match a with
  | .pk i => i == j
  | _ => false
theorem pkIs_v : pkIs j (.v d) = false := rfl
theorem pkIs_pk : pkIs j (.pk i) = (i == j) := rfl
theorem once_v {r : List Ar} : once (.v d :: r) = once r := by rw [once]; intro _ h; cases h
theorem once_pk {r : List Ar} : once (.pk j :: r) = (!(r.any (pkIs j)) && once r) := rfl
theorem sh_0 : shape [] [] = true := rfl
theorem sh_fz' {a b : List Sl} {x : Sl} : shape (.fz d :: a) (x :: b) = shape a b := by rw [shape] <;> (intros; contradiction)
theorem sh_bor' {a b : List Sl} {k k' : Nat} {x : D} : shape (.bor k d :: a) (.bor k' x :: b) = shape a b := rfl
theorem B64_def {i : Int} : B64 i = (-(2 ^ 64) < i ∧ i < 2 ^ 64) := propext ⟨id, id⟩
theorem B63_def {i : Int} : B63 i = (-(2 ^ 63) ≤ i ∧ i < 2 ^ 63) := propext ⟨id, id⟩
theorem B62_def {i : Int} : B62 i = (-(2 ^ 62) ≤ i ∧ i < 2 ^ 62) := propext ⟨id, id⟩
theorem x_tYes {g : Tg QB} : run QB g (tYesF E) = QB true E := rfl
theorem x_ixL {ds : List D} {i : Int} : oIx (.lst ds) (.int i) = atI ds i := rfl
theorem x_ixT {ds : List D} {i : Int} : oIx (.tup ds) (.int i) = atI ds i := rfl
theorem tIsi {N : Nat} {x : D} {T : String} : oIsi N [x, .ty T] = (tyName x).bind fun t => if tgs.contains T = true then some (.bl (subTy t T)) else none := by
  show ((isiOne N x (.ty T)).map D.bl) = _
  unfold isiOne
  cases tyName x with
  | none => rfl
  | some t => by_cases h : tgs.contains T = true <;> simp [h]
theorem tgs_int : tgs.contains "int" = true := by decide
theorem tgs_bool : tgs.contains "bool" = true := by decide
theorem tgs_tuple : tgs.contains "tuple" = true := by decide
theorem tgs_list : tgs.contains "list" = true := by decide
theorem tgs_str : tgs.contains "str" = true := by decide
theorem st_NoneType_bool : subTy "NoneType" "bool" = false := by decide
theorem st_NoneType_int : subTy "NoneType" "int" = false := by decide
theorem st_NoneType_str : subTy "NoneType" "str" = false := by decide
theorem st_NoneType_tuple : subTy "NoneType" "tuple" = false := by decide
theorem st_NoneType_list : subTy "NoneType" "list" = false := by decide
theorem st_NoneType_dict : subTy "NoneType" "dict" = false := by decide
theorem st_bool_bool : subTy "bool" "bool" = true := by decide
theorem st_bool_int : subTy "bool" "int" = true := by decide
theorem st_bool_str : subTy "bool" "str" = false := by decide
theorem st_bool_tuple : subTy "bool" "tuple" = false := by decide
theorem st_bool_list : subTy "bool" "list" = false := by decide
theorem st_bool_dict : subTy "bool" "dict" = false := by decide
theorem st_int_bool : subTy "int" "bool" = false := by decide
theorem st_int_int : subTy "int" "int" = true := by decide
theorem st_int_str : subTy "int" "str" = false := by decide
theorem st_int_tuple : subTy "int" "tuple" = false := by decide
theorem st_int_list : subTy "int" "list" = false := by decide
theorem st_int_dict : subTy "int" "dict" = false := by decide
theorem st_str_bool : subTy "str" "bool" = false := by decide
theorem st_str_int : subTy "str" "int" = false := by decide
theorem st_str_str : subTy "str" "str" = true := by decide
theorem st_str_tuple : subTy "str" "tuple" = false := by decide
theorem st_str_list : subTy "str" "list" = false := by decide
theorem st_str_dict : subTy "str" "dict" = false := by decide
theorem st_tuple_bool : subTy "tuple" "bool" = false := by decide
theorem st_tuple_int : subTy "tuple" "int" = false := by decide
theorem st_tuple_str : subTy "tuple" "str" = false := by decide
theorem st_tuple_tuple : subTy "tuple" "tuple" = true := by decide
theorem st_tuple_list : subTy "tuple" "list" = false := by decide
theorem st_tuple_dict : subTy "tuple" "dict" = false := by decide
theorem st_list_bool : subTy "list" "bool" = false := by decide
theorem st_list_int : subTy "list" "int" = false := by decide
theorem st_list_str : subTy "list" "str" = false := by decide
theorem st_list_tuple : subTy "list" "tuple" = false := by decide
theorem st_list_list : subTy "list" "list" = true := by decide
theorem st_list_dict : subTy "list" "dict" = false := by decide
theorem st_dict_bool : subTy "dict" "bool" = false := by decide
theorem st_dict_int : subTy "dict" "int" = false := by decide
theorem st_dict_str : subTy "dict" "str" = false := by decide
theorem st_dict_tuple : subTy "dict" "tuple" = false := by decide
theorem st_dict_list : subTy "dict" "list" = false := by decide
theorem st_dict_dict : subTy "dict" "dict" = true := by decide
theorem tIsc {N c : Nat} {x : D} : oIsi N [x, .cls c] = (isiOne N x (.cls c)).map D.bl := rfl
theorem isc_ins {N c : Nat} {ns : List Str} {ds : List D} : isiOne N (.ins c ns ds) (.cls c) = some true := by unfold isiOne; simp
theorem isc_non {N c : Nat} : isiOne N .non (.cls c) = some false := rfl
theorem isc_bl {N c : Nat} {b : Bool} : isiOne N (.bl b) (.cls c) = some false := rfl
theorem isc_int {N c : Nat} {b : Int} : isiOne N (.int b) (.cls c) = some false := rfl
theorem isc_str {N c : Nat} {b : Str} : isiOne N (.str b) (.cls c) = some false := rfl
theorem isc_tup {N c : Nat} {b : List D} : isiOne N (.tup b) (.cls c) = some false := rfl
theorem isc_lst {N c : Nat} {b : List D} : isiOne N (.lst b) (.cls c) = some false := rfl
theorem isc_emp {N c : Nat} : isiOne N .emp (.cls c) = some false := rfl
theorem tgs_dict : tgs.contains "dict" = true := by decide
end
end FL

namespace FL
open PySem PySem.Spec PyProof.Rows L2
/-! ## loops over lists that are made of things of your own -/
def lpK (J : Nv → Prop) (Q : Fl → Nv → Prop) (_ : Tg (J, Q)) (fl : Fl) (E : Nv) : Prop := match fl with
  | .nx => J E
  | .ct => J E
  | .bk => Q .nx E
  | fl => Q fl E
def tsK (f : Nv → R D) (J : D → Nv → Prop) (N : Nv → Prop) (_ : Tg (f, J, N)) (b : Bool) (E : Nv) : Prop := if b = true then run J () (f E) else N E
section
variable {E : Nv} {QD : D → Nv → Prop} {QS : Fl → Nv → Prop} {f : Nv → R D} {t : Nv → R Bool} {s : Nv → R Fl} {J : Nv → Prop} {JD : D → Nv → Prop} {d : D} {b : Bd} {ds : List D} {α β : Type}
theorem lpK_nx {g : Tg (J, QS)} : lpK J QS g .nx E = J E := rfl
theorem lpK_ct {g : Tg (J, QS)} : lpK J QS g .ct E = J E := rfl
theorem lpK_bk {g : Tg (J, QS)} : lpK J QS g .bk E = QS .nx E := rfl
theorem lpK_rt {g : Tg (J, QS)} : lpK J QS g (.rt d) E = QS (.rt d) E := rfl
theorem lpK_rn {g : Tg (J, QS)} : lpK J QS g (.rn d) E = QS (.rn d) E := rfl
theorem tsK_t {g : Tg (f, JD, J)} : tsK f JD J g true E = run JD () (f E) := rfl
theorem tsK_f {g : Tg (f, JD, J)} : tsK f JD J g false E = J E := rfl
theorem tsK_if {g : Tg (f, JD, J)} {k : Bool} (h1 : k = true → run JD () (f E)) (h2 : k = false → J E) : tsK f JD J g k E := by
  cases k with
  | true => exact h1 rfl
  | false => exact h2 rfl
/-- by the rest -/
theorem for_maps {f : α → D} {xs : List α} {g : Tg (b, s, QS)} (P : List α → Nv → Prop) (h0 : P xs E)
    (turn : ∀ x r E, P (x :: r) E → someK (fun E1 => run (lpK (P r) QS ()) () (s E1)) () (b (f x) E)) (fin : ∀ E, P [] E → QS .nx E) : forK b s QS g (xs.map f) E := by
  refine for_run (fun r E => ∃ rs, r = rs.map f ∧ P rs E) ⟨xs, rfl, h0⟩ (fun d r E h => ?_) (fun E h => ?_)
  · obtain ⟨rs, e, p⟩ := h
    cases rs with
    | nil => cases e
    | cons x rs =>
      cases e
      obtain ⟨E1, e1, w⟩ := turn x rs E p
      refine ⟨E1, e1, wp_imp w fun fl E2 q => ?_⟩
      cases fl with
      | nx => exact ⟨rs, rfl, q⟩
      | ct => exact ⟨rs, rfl, q⟩
      | _ => exact q
  · obtain ⟨rs, e, p⟩ := h
    cases rs with
    | nil => exact fin E p
    | cons x rs => cases e
theorem for_ds {g : Tg (b, s, QS)} (P : List D → Nv → Prop) (h0 : P ds E)
    (turn : ∀ x r E, P (x :: r) E → someK (fun E1 => run (lpK (P r) QS ()) () (s E1)) () (b x E)) (fin : ∀ E, P [] E → QS .nx E) : forK b s QS g ds E := by
  have := for_maps (b := b) (s := s) (QS := QS) (g := g) (f := fun x => x) P h0 turn fin
  simpa using this
theorem enumD_map {f : α → D} : ∀ (n : Nat) (xs : List α), enumD n (xs.map f) = (xs.zipIdx n).map fun p => .tup [.int (p.2 : Nat), f p.1]
  | _, [] => rfl
  | n, x :: xs => by
    rw [List.map_cons, enumD, List.zipIdx_cons, List.map_cons, enumD_map (n + 1) xs]
theorem for_enum {f : α → D} {xs : List α} {g : Tg (b, s, QS)} (P : Nat → List α → Nv → Prop) (h0 : P 0 xs E)
    (turn : ∀ n x r E, P n (x :: r) E → someK (fun E1 => run (lpK (P (n + 1) r) QS ()) () (s E1)) () (b (.tup [.int (n : Nat), f x]) E)) (fin : ∀ n E, P n [] E → QS .nx E) : forK b s QS g (enumD 0 (xs.map f)) E := by
  rw [enumD_map]
  refine for_maps (fun r E => ∃ n rs, r = rs.zipIdx n ∧ P n rs E) ⟨0, xs, rfl, h0⟩ (fun p r E h => ?_) (fun E h => ?_)
  · obtain ⟨n, rs, e, p⟩ := h
    cases rs with
    | nil => cases e
    | cons x rs =>
      rw [List.zipIdx_cons] at e
      cases e
      obtain ⟨E1, e1, w⟩ := turn n x rs E p
      refine ⟨E1, e1, wp_imp w fun fl E2 q => ?_⟩
      cases fl with
      | nx => exact ⟨n + 1, rs, rfl, q⟩
      | ct => exact ⟨n + 1, rs, rfl, q⟩
      | _ => exact q
  · obtain ⟨n, rs, e, p⟩ := h
    cases rs with
    | nil => exact fin n E p
    | cons x rs => rw [List.zipIdx_cons] at e; cases e
theorem for_rng {lo : Int} {n : Nat} {g : Tg (b, s, QS)} (P : Nat → Nv → Prop) (h0 : P 0 E)
    (turn : ∀ i E, i < n → P i E → someK (fun E1 => run (lpK (P (i + 1)) QS ()) () (s E1)) () (b (.int (lo + i)) E)) (fin : ∀ E, P n E → QS .nx E) : forK b s QS g (rangeD lo n) E := by
  refine for_maps (fun r E => ∃ i, r = (List.range n).drop i ∧ i ≤ n ∧ P i E) ⟨0, rfl, Nat.zero_le _, h0⟩ (fun x r E h => ?_) (fun E h => ?_)
  · obtain ⟨i, e, hi, p⟩ := h
    by_cases hl : i < n
    · rw [List.drop_eq_getElem_cons (by simpa using hl)] at e
      cases e
      obtain ⟨E1, e1, w⟩ := turn i E hl p
      simp only [List.getElem_range]
      refine ⟨E1, e1, wp_imp w fun fl E2 q => ?_⟩
      cases fl with
      | nx => exact ⟨i + 1, rfl, hl, q⟩
      | ct => exact ⟨i + 1, rfl, hl, q⟩
      | _ => exact q
    · rw [List.drop_eq_nil_of_le (by simp; omega)] at e
      cases e
  · obtain ⟨i, e, hi, p⟩ := h
    have : n ≤ i := by simpa [List.drop_eq_nil_iff] using e.symm
    have : i = n := by omega
    subst this
    exact fin E p
/-- a comprehension over things of your own -/
theorem lc_maps {k : α → D} {xs : List α} {vs : List Nat} {g : Tg (b, t, f, vs, QD)} (hl : xs.length ≤ sizeLine) (P : List α → List D → Nv → Prop) (h0 : P xs [] (wipeE E vs))
    (turn : ∀ x r acc E, P (x :: r) acc E → someK (fun E1 => run (tsK f (fun y E3 => P r (acc ++ [y]) (wipeE E3 vs)) (fun E2 => P r acc (wipeE E2 vs)) ()) () (t E1)) () (b (k x) E))
    (fin : ∀ acc E2, P [] acc E2 → QD (.lst acc) (restoreE E E2 vs)) : lcK b t f vs QD g (xs.map k) E := by
  refine wp_lcL (fun r acc E => ∃ rs, r = rs.map k ∧ acc.length + rs.length ≤ sizeLine ∧ P rs acc E) ⟨xs, rfl, by simpa using hl, h0⟩ (fun d r acc E h => ?_) (fun acc E h => ?_)
  · obtain ⟨rs, e, hs, p⟩ := h
    cases rs with
    | nil => cases e
    | cons x rs =>
      cases e
      rw [List.length_cons] at hs
      obtain ⟨E1, e1, w⟩ := turn x rs acc E p
      refine ⟨E1, e1, wp_imp w fun c E2 q => ?_⟩
      cases c with
      | true =>
        rw [if_pos rfl]
        have q : wp (f E2) _ := q
        refine wp_imp q fun y E3 q2 => ⟨by omega, rs, rfl, ?_, q2⟩
        rw [List.length_append, List.length_singleton]; omega
      | false => exact ⟨rs, rfl, by omega, q⟩
  · obtain ⟨rs, e, hs, p⟩ := h
    cases rs with
    | nil => exact fin acc E p
    | cons x rs => cases e
theorem lc_ds {vs : List Nat} {g : Tg (b, t, f, vs, QD)} (hl : ds.length ≤ sizeLine) (P : List D → List D → Nv → Prop) (h0 : P ds [] (wipeE E vs))
    (turn : ∀ x r acc E, P (x :: r) acc E → someK (fun E1 => run (tsK f (fun y E3 => P r (acc ++ [y]) (wipeE E3 vs)) (fun E2 => P r acc (wipeE E2 vs)) ()) () (t E1)) () (b x E))
    (fin : ∀ acc E2, P [] acc E2 → QD (.lst acc) (restoreE E E2 vs)) : lcK b t f vs QD g ds E := by
  have := lc_maps (b := b) (t := t) (f := f) (QD := QD) (g := g) (k := fun x => x) hl P h0 turn fin
  simpa using this
/-- .. whose element is a function of the thing and that leaves the slots -/
theorem lc_fun {k : α → D} {xs : List α} {vs : List Nat} {g : Tg (b, tYesF, f, vs, QD)} (hl : xs.length ≤ sizeLine) (h : α → D)
    (turn : ∀ x, x ∈ xs → someK (fun E1 => run (fun y E3 => y = h x ∧ wipeE E3 vs = wipeE E vs) () (f E1)) () (b (k x) (wipeE E vs)))
    (fin : QD (.lst (xs.map h)) (restoreE E (wipeE E vs) vs)) : lcK b tYesF f vs QD g (xs.map k) E := by
  refine lc_maps hl (fun r acc E2 => ∃ l, xs = l ++ r ∧ acc = l.map h ∧ E2 = wipeE E vs) ⟨[], rfl, rfl, rfl⟩ ?_ ?_
  · rintro x r acc E2 ⟨l, rfl, rfl, rfl⟩
    obtain ⟨E1, e, w⟩ := turn x (by simp)
    refine ⟨E1, e, wp_imp (r := f E1) w ?_⟩
    rintro y E3 ⟨rfl, e3⟩
    exact ⟨l ++ [x], by simp, by simp, e3⟩
  · rintro acc E2 ⟨l, rfl, rfl, rfl⟩
    simpa using fin
theorem lc_rng {lo : Int} {n : Nat} {vs : List Nat} {g : Tg (b, t, f, vs, QD)} (hl : n ≤ sizeLine) (P : Nat → List D → Nv → Prop) (h0 : P 0 [] (wipeE E vs))
    (turn : ∀ i acc E, i < n → P i acc E → someK (fun E1 => run (tsK f (fun y E3 => P (i + 1) (acc ++ [y]) (wipeE E3 vs)) (fun E2 => P (i + 1) acc (wipeE E2 vs)) ()) () (t E1)) () (b (.int (lo + i)) E))
    (fin : ∀ acc E2, P n acc E2 → QD (.lst acc) (restoreE E E2 vs)) : lcK b t f vs QD g (rangeD lo n) E := by
  refine lc_maps (by simpa using hl) (fun r acc E => ∃ i, r = (List.range n).drop i ∧ i ≤ n ∧ P i acc E) ⟨0, rfl, Nat.zero_le _, h0⟩ (fun x r acc E h => ?_) (fun acc E h => ?_)
  · obtain ⟨i, e, hi, p⟩ := h
    by_cases hl : i < n
    · rw [List.drop_eq_getElem_cons (by simpa using hl)] at e
      cases e
      obtain ⟨E1, e1, w⟩ := turn i acc E hl p
      simp only [List.getElem_range]
      refine ⟨E1, e1, wp_imp w fun c E2 q => ?_⟩
      cases c with
      | true => exact wp_imp (r := f E2) q fun y E3 q2 => ⟨i + 1, rfl, hl, q2⟩
      | false => exact ⟨i + 1, rfl, hl, q⟩
    · rw [List.drop_eq_nil_of_le (by simp; omega)] at e
      cases e
  · obtain ⟨i, e, hi, p⟩ := h
    have : n ≤ i := by simpa [List.drop_eq_nil_iff] using e.symm
    have : i = n := by omega
    subst this
    exact fin acc E p
end
/-! ## what is looked at, further -/
section
variable {α : Type}
theorem atI_get {xs : List α} {i : Int} {x : α} (h : 0 ≤ i) (e : xs[i.toNat]? = some x) : atI xs i = some x := by rw [atI_pos h]; exact e
theorem atI_map {β : Type} {f : α → β} {xs : List α} {i : Int} {x : α} (h : 0 ≤ i) (e : xs[i.toNat]? = some x) : atI (xs.map f) i = some (f x) := by
  rw [atI_pos h, List.getElem?_map, e]; rfl
theorem asBs_map {f : α → Bool} : ∀ xs : List α, asBs (xs.map fun x => D.bl (f x)) = some (xs.map f)
  | [] => rfl
  | x :: xs => by rw [List.map_cons, asBs, asBs_map xs]; rfl
theorem oAll_map {f : α → Bool} {xs : List α} : oAll [.lst (xs.map fun x => D.bl (f x))] = some (.bl (xs.all f)) := by
  unfold oAll; simp only [asBs_map]; simp [List.all_map]
theorem oAny_map {f : α → Bool} {xs : List α} : oAny [.lst (xs.map fun x => D.bl (f x))] = some (.bl (xs.any f)) := by
  unfold oAny; simp only [asBs_map]; simp [List.any_map]
theorem zipD_map {β : Type} {f : α → D} {h : β → D} (xs : List α) (ys : List β) : zipD (xs.map f) (ys.map h) = (xs.zip ys).map fun p => .tup [f p.1, h p.2] := by
  unfold zipD; rw [List.zip_map, List.map_map]; rfl
end

theorem x_slT {ds : List D} {lo hi : Option Int} : oSl (.tup ds) lo hi = some (.tup (cutL ds lo hi)) := rfl
theorem x_slL {ds : List D} {lo hi : Option Int} : oSl (.lst ds) lo hi = some (.lst (cutL ds lo hi)) := rfl
theorem x_slS {ns : List Int} {lo hi : Option Int} : oSl (.scr ns) lo hi = some (.lst (cutL (ns.map .int) lo hi)) := rfl
theorem cut_hi {α : Type} {xs : List α} {i : Int} (h : 0 ≤ i) : cutL xs none (some i) = xs.take i.toNat := by
  obtain ⟨n, rfl⟩ := Int.eq_ofNat_of_zero_le h
  unfold cutL; rw [HT.sIx_none, HT.sIx_nat]; simp
theorem cut_lo {α : Type} {xs : List α} {i : Int} (h : 0 ≤ i) : cutL xs (some i) none = xs.drop i.toNat := by
  obtain ⟨n, rfl⟩ := Int.eq_ofNat_of_zero_le h
  unfold cutL; rw [HT.sIx_none, HT.sIx_nat]
  by_cases hn : n ≤ xs.length
  · rw [Nat.min_eq_left hn, List.take_of_length_le (by simp)]; rfl
  · rw [Nat.min_eq_right (by omega), List.drop_length, List.take_nil, List.drop_eq_nil_of_le (by simp; omega)]
theorem cut_lohi {α : Type} {xs : List α} {i j : Int} (h : 0 ≤ i) (h2 : 0 ≤ j) : cutL xs (some i) (some j) = (xs.take j.toNat).drop i.toNat := by
  obtain ⟨n, rfl⟩ := Int.eq_ofNat_of_zero_le h
  obtain ⟨m, rfl⟩ := Int.eq_ofNat_of_zero_le h2
  unfold cutL; rw [HT.sIx_nat, HT.sIx_nat, List.drop_take]
  simp only [Int.toNat_natCast]
  by_cases hn : n ≤ xs.length
  · by_cases hm : m ≤ xs.length
    · rw [Nat.min_eq_left hn, Nat.min_eq_left hm]
    · rw [Nat.min_eq_left hn, Nat.min_eq_right (by omega), List.take_of_length_le (by simp), List.take_of_length_le (by simp; omega)]
  · rw [Nat.min_eq_right (by omega : xs.length ≤ n), List.drop_length, List.drop_eq_nil_of_le (by omega : xs.length ≤ n)]; simp
theorem x_itT {ds : List D} : itAny (.tup ds) = some ds := rfl
theorem x_itL {ds : List D} : itAny (.lst ds) = some ds := rfl
theorem x_itS {ns : List Int} : itAny (.scr ns) = some (ns.map .int) := rfl
open Classical in
theorem x_itR1 {j : Int} : itR [.int j] = if B62 j then some (rangeD 0 j.toNat) else none := rfl
open Classical in
theorem x_itR2 {i j : Int} : itR [.int i, .int j] = if B62 i ∧ B62 j then some (rangeD i (j - i).toNat) else none := rfl
theorem x_itZT {a b : List D} : itZ [.tup a, .tup b] = some (zipD a b) := rfl
theorem x_itZL {a b : List D} : itZ [.lst a, .lst b] = some (zipD a b) := rfl
theorem x_itET {a : List D} : itE [.tup a] = some (enumD 0 a) := rfl
theorem x_itEL {a : List D} : itE [.lst a] = some (enumD 0 a) := rfl
theorem x_app {ds : List D} {d : D} : mAppend (.lst ds) [d] = if ds.length < sizeLine then some (.non, .lst (ds ++ [d])) else none := rfl
/-! ## data of a kind, compared -/
structure Enc {α : Type} [DecidableEq α] (f : α → D) (n : Nat) : Prop where
  ex : ∃ g : α → PyData, ∀ a, toPy (f a) = some (g a) ∧ PyData.canLay0 (g a) = true ∧ PyData.depth (g a) ≤ n ∧ ∀ b, PyData.eqv (g a) (g b) = decide (a = b)
theorem toPyL_map {α : Type} {f : α → D} {g : α → PyData} (h : ∀ a, toPy (f a) = some (g a)) : ∀ xs : List α, toPyL (xs.map f) = some (xs.map g)
  | [] => rfl
  | x :: xs => by rw [List.map_cons, toPyL, h x, toPyL_map h xs]; rfl
theorem lay_map {α : Type} {g : α → PyData} (h : ∀ a, PyData.canLay0 (g a) = true) : ∀ xs : List α, PyData.canLayAll0 (xs.map g) = true
  | [] => rfl
  | x :: xs => by rw [List.map_cons, PyData.canLayAll0, h x, lay_map h xs]; rfl
theorem depth_map {α : Type} {g : α → PyData} {n : Nat} (h : ∀ a, PyData.depth (g a) ≤ n) : ∀ xs : List α, PyData.depthAll (xs.map g) ≤ n
  | [] => by simp [PyData.depthAll]
  | x :: xs => by rw [List.map_cons, PyData.depthAll]; exact Nat.max_le.mpr ⟨h x, depth_map h xs⟩
theorem eqv_map {α : Type} [DecidableEq α] {g : α → PyData} (h : ∀ a b, PyData.eqv (g a) (g b) = decide (a = b)) : ∀ xs ys : List α, PyData.eqvAll (xs.map g) (ys.map g) = decide (xs = ys)
  | [], [] => by rfl
  | [], y :: ys => by simp [PyData.eqvAll]
  | x :: xs, [] => by simp [PyData.eqvAll]
  | x :: xs, y :: ys => by rw [List.map_cons, List.map_cons, PyData.eqvAll, h x y, eqv_map h xs ys]; simp
theorem Enc.eq {α : Type} [DecidableEq α] {f : α → D} {n : Nat} (h : Enc f n) (hn : n ≤ 60) (a b : α) : oEq (f a) (f b) = some (.bl (decide (a = b))) := by
  obtain ⟨g, hg⟩ := h.ex
  unfold oEq dEq
  rw [(hg a).1, (hg b).1]
  have ha : SeqAt.shaped (g a) = true := by unfold SeqAt.shaped; rw [(hg a).2.1, decide_eq_true (Nat.le_trans (hg a).2.2.1 (by omega))]; rfl
  have hb : SeqAt.shaped (g b) = true := by unfold SeqAt.shaped; rw [(hg b).2.1, decide_eq_true (Nat.le_trans (hg b).2.2.1 (by omega))]; rfl
  simp only
  rw [if_pos ⟨ha, hb⟩, (hg a).2.2.2 b]; rfl
theorem Enc.ne {α : Type} [DecidableEq α] {f : α → D} {n : Nat} (h : Enc f n) (hn : n ≤ 60) (a b : α) : oNe (f a) (f b) = some (.bl (!decide (a = b))) := by
  have e := h.eq hn a b
  unfold oEq at e
  unfold oNe
  cases z : dEq (f a) (f b) with
  | none => rw [z] at e; cases e
  | some k => rw [z] at e; cases e; rfl
theorem Enc.anyIn {α : Type} [DecidableEq α] {g : α → PyData} {a : α} (h : ∀ a b, PyData.eqv (g a) (g b) = decide (a = b)) : ∀ xs : List α, ((xs.map g).any fun z => PyData.eqv z (g a)) = decide (a ∈ xs)
  | [] => by simp
  | x :: xs => by
    rw [List.map_cons, List.any_cons, Enc.anyIn h xs, h x a]
    by_cases e : x = a
    · subst e; simp
    · simp [e, Ne.symm e]
theorem Enc.inL {α : Type} [DecidableEq α] {f : α → D} {n : Nat} (h : Enc f n) (hn : n ≤ 50) (a : α) (xs : List α) : dIn (f a) (.lst (xs.map f)) = some (decide (a ∈ xs)) := by
  obtain ⟨g, hg⟩ := h.ex
  unfold dIn
  simp only [(hg a).1, toPyL_map (fun a => (hg a).1)]
  have ha : SeqAt.shaped (g a) = true := by unfold SeqAt.shaped; rw [(hg a).2.1, decide_eq_true (Nat.le_trans (hg a).2.2.1 (by omega))]; rfl
  have hb : SeqAt.shaped (.list (xs.map g)) = true := by
    unfold SeqAt.shaped PyData.canLay0 PyData.depth
    rw [lay_map (fun a => (hg a).2.1)]
    have := depth_map (fun a => (hg a).2.2.1) xs
    rw [decide_eq_true (by omega)]; rfl
  rw [if_pos ⟨ha, hb⟩, Enc.anyIn (fun a b => (hg a).2.2.2 b)]
theorem Enc.inT {α : Type} [DecidableEq α] {f : α → D} {n : Nat} (h : Enc f n) (hn : n ≤ 50) (a : α) (xs : List α) : dIn (f a) (.tup (xs.map f)) = some (decide (a ∈ xs)) := h.inL hn a xs
theorem Enc.oInL {α : Type} [DecidableEq α] {f : α → D} {n : Nat} (h : Enc f n) (hn : n ≤ 50) (a : α) (xs : List α) : oIn (f a) (.lst (xs.map f)) = some (.bl (decide (a ∈ xs))) := by unfold oIn; rw [h.inL hn]; rfl
theorem Enc.oInT {α : Type} [DecidableEq α] {f : α → D} {n : Nat} (h : Enc f n) (hn : n ≤ 50) (a : α) (xs : List α) : oIn (f a) (.tup (xs.map f)) = some (.bl (decide (a ∈ xs))) := by unfold oIn; rw [h.inT hn]; rfl
theorem Enc.oNotInL {α : Type} [DecidableEq α] {f : α → D} {n : Nat} (h : Enc f n) (hn : n ≤ 50) (a : α) (xs : List α) : oNotIn (f a) (.lst (xs.map f)) = some (.bl (!decide (a ∈ xs))) := by unfold oNotIn; rw [h.inL hn]; rfl
theorem Enc.oNotInT {α : Type} [DecidableEq α] {f : α → D} {n : Nat} (h : Enc f n) (hn : n ≤ 50) (a : α) (xs : List α) : oNotIn (f a) (.tup (xs.map f)) = some (.bl (!decide (a ∈ xs))) := by unfold oNotIn; rw [h.inT hn]; rfl
theorem Enc.tup {α : Type} [DecidableEq α] {f : α → D} {n : Nat} (h : Enc f n) : Enc (fun xs : List α => D.tup (xs.map f)) (n + 1) := by
  obtain ⟨g, hg⟩ := h.ex
  refine ⟨fun xs => .tuple (xs.map g), fun xs => ⟨?_, ?_, ?_, fun ys => ?_⟩⟩
  · unfold toPy; rw [toPyL_map (fun a => (hg a).1)]; rfl
  · unfold PyData.canLay0; exact lay_map (fun a => (hg a).2.1) xs
  · have := depth_map (fun a => (hg a).2.2.1) xs
    unfold PyData.depth; omega
  · unfold PyData.eqv; exact eqv_map (fun a b => (hg a).2.2.2 b) xs ys
theorem Enc.lst {α : Type} [DecidableEq α] {f : α → D} {n : Nat} (h : Enc f n) : Enc (fun xs : List α => D.lst (xs.map f)) (n + 1) := by
  obtain ⟨g, hg⟩ := h.ex
  refine ⟨fun xs => .list (xs.map g), fun xs => ⟨?_, ?_, ?_, fun ys => ?_⟩⟩
  · unfold toPy; rw [toPyL_map (fun a => (hg a).1)]; rfl
  · unfold PyData.canLay0; exact lay_map (fun a => (hg a).2.1) xs
  · have := depth_map (fun a => (hg a).2.2.1) xs
    unfold PyData.depth; omega
  · unfold PyData.eqv; exact eqv_map (fun a b => (hg a).2.2.2 b) xs ys
theorem Enc.int : Enc D.int 0 := ⟨fun i => .int i, fun a => ⟨rfl, rfl, Nat.le_refl _, fun b => by unfold PyData.eqv; exact rfl⟩⟩
def oD : Option Int → D
  | none => .non
  | some i => .int i
def oPy : Option Int → PyData
  | none => .none
  | some i => .int i
theorem Enc.opt : Enc oD 0 := ⟨oPy, fun a => ⟨by cases a <;> rfl, by cases a <;> rfl, by cases a <;> exact Nat.le_refl _, fun b => by
  cases a <;> cases b <;> simp [oPy, PyData.eqv]
  rename_i a b
  by_cases h : a = b <;> simp [h]⟩⟩
abbrev L3 := Int × Int × Int
def lD (l : L3) : D := .tup [.int l.1, .int l.2.1, .int l.2.2]
theorem Enc.l3 : Enc lD 1 := ⟨fun l => .tuple [.int l.1, .int l.2.1, .int l.2.2], fun a => ⟨rfl, rfl, by simp [PyData.depth, PyData.depthAll], fun b => by
  obtain ⟨a1, a2, a3⟩ := a
  obtain ⟨b1, b2, b3⟩ := b
  simp only [PyData.eqv, PyData.eqvAll, Bool.and_true, Prod.mk.injEq]
  by_cases h1 : a1 = b1 <;> by_cases h2 : a2 = b2 <;> by_cases h3 : a3 = b3 <;> simp [h1, h2, h3]⟩⟩

/-! ## instances -/
def rSF (s : Option Sl) (f : Str) (d : D) : Option Sl := match s with
  | some s => match s.cell with
    | some (.ins c ns ds) => if ns.length < 900 then some (s.put (.ins c (putN f ns) (putD f d ns ds))) else none
    | _ => none
  | none => none
def mkK (Q : D → Nv → Prop) (_ : Tg Q) (n : Nat) (d : D) (E : Nv) : Prop := d = .non ∧ ∃ x, E[n]? = some (.own x) ∧ Q x (E.take n)
def mkK2 (Q : D → Nv → Prop) (_ : Tg Q) (s : Option Sl) (E : Nv) : Prop := ∃ x, s = some (.own x) ∧ Q x E
def eqK (c : Nat) (fn : Fn) (a b : Ar) (Q : D → Nv → Prop) (_ : Tg (fn, Q)) (E : Nv) (x y : Option D) : Prop := match x, y with
  | some (.ins c1 _ _), some y => c1 = c ∧ eqKind c y = true ∧ calK fn [a, b] (fun d E2 => run (fun k E3 => Q (.bl k) E3) () (R.some (asB d) E2)) () E (lend E 0 [a, b])
  | _, _ => False
section
variable {E : Nv} {QD : D → Nv → Prop} {QS : Fl → Nv → Prop} {fa fb : Nv → R Ar} {fl : Nv → R (List Ar)} {f : Nv → R D} {i c : Nat} {fn : Fn} {d : D} {a b : Ar}
theorem x_fSetFld' {n : Str} {g : Tg QS} : run QS g (fSetFld i n f E) = run (fun d E1 => run (fun _ E2 => run (fun x E3 => QS .nx (E3.set i x)) () (R.some (rSF E2[i]? n d) E2)) () (fPk i E1)) () (f E) := by
  rw [x_fSetFld]; unfold run; congr; funext d E1; congr; funext a E2
  unfold setFld rSF
  cases E2[i]? with
  | none => rfl
  | some s =>
    cases z : s.cell with
    | none => simp [z, R.some, wp]
    | some c =>
      cases c <;> simp [z, R.some, wp]
      rename_i ns ds
      by_cases h : ns.length < 900 <;> simp [h]
theorem rSF_bor {k : Nat} {n : Str} {c : Nat} {ns : List Str} {ds : List D} : rSF (some (.bor k (.ins c ns ds))) n d = if ns.length < 900 then some (.bor k (.ins c (putN n ns) (putD n d ns ds))) else none := rfl
theorem rSF_own {n : Str} {c : Nat} {ns : List Str} {ds : List D} : rSF (some (.own (.ins c ns ds))) n d = if ns.length < 900 then some (.own (.ins c (putN n ns) (putD n d ns ds))) else none := rfl
theorem run_resC {fn : Fn} {as : List Ar} {g : Tg QD} : run QD g (resC fn as E) = calK fn as QD () E (lend E 0 as) := by
  unfold run calK
  cases z : lend E 0 as with
  | none => simp [resC, z, wp]
  | some xs =>
    by_cases ho : once as = true
    · rw [wp_resC z ho]; simp [ho]
    · simp [resC, z, ho, wp]
theorem x_fMake {g : Tg QD} : run QD g (fMake c fn fl E) = run (fun as E1 => calK fn (.pk E1.length :: as) (mkK QD () E1.length) () (E1 ++ [.own (.ins c [] [])]) (lend (E1 ++ [.own (.ins c [] [])]) 0 (.pk E1.length :: as))) () (fl E) := by
  unfold run fMake
  rw [wp_bind]; congr; funext as E1
  rw [← run_resC (g := ())]
  unfold run resMk
  cases resC fn (.pk E1.length :: as) (E1 ++ [.own (.ins c [] [])]) with
  | bad => rfl
  | exc _ _ _ => rfl
  | val d E2 =>
    unfold mkK
    simp only [wp]
    cases d with
    | non =>
      simp only
      cases E2[E1.length]? with
      | none => simp [wp]
      | some s => cases s <;> simp [wp]
    | _ => simp [wp]
theorem mkK_s {n : Nat} {g : Tg QD} : mkK QD g n .non E = mkK2 QD () E[n]? (E.take n) := by unfold mkK mkK2; simp
theorem mkK2_s {g : Tg QD} : mkK2 QD g (some (.own d)) E = QD d E := by unfold mkK2; simp
theorem x_fEqI {g : Tg QD} : run QD g (fEqI c fn fa fb E) = run (fun a E1 => run (fun b E2 => eqK c fn a b QD () E2 (a.get E2) (b.get E2)) () (fb E1)) () (fa E) := by
  unfold run fEqI
  simp only [wp_bind]
  congr; funext a E1; congr; funext b E2
  unfold resEq eqK
  cases a.get E2 with
  | none => rfl
  | some x =>
    cases b.get E2 with
    | none => cases x <;> rfl
    | some y =>
      cases x <;> try rfl
      rename_i c1 _ _
      simp only
      by_cases h1 : c1 = c
      · by_cases h2 : eqKind c y = true
        · simp only [h1, h2, and_self, if_true, true_and]
          rw [← run_resC (g := ())]
          unfold run
          rw [wp_bind, wp_nox]
          congr; funext d E3
          cases asB d <;> rfl
        · simp [h1, h2, wp]
      · simp [h1, wp]
theorem eqK_s {g : Tg (fn, QD)} {n1 : List Str} {d1 : List D} {y : D} (h : eqKind c y = true) : eqK c fn a b QD g E (some (.ins c n1 d1)) (some y) = calK fn [a, b] (fun d E2 => run (fun k E3 => QD (.bl k) E3) () (R.some (asB d) E2)) () E (lend E 0 [a, b]) := by
  unfold eqK; simp [h]
theorem ek_ins {ns : List Str} {ds : List D} : eqKind c (.ins c ns ds) = true := by simp [eqKind]
theorem ek_non : eqKind c .non = true := rfl
theorem ek_bl {b : Bool} : eqKind c (.bl b) = true := rfl
theorem ek_int {b : Int} : eqKind c (.int b) = true := rfl
theorem ek_str {b : Str} : eqKind c (.str b) = true := rfl
theorem ek_tup {b : List D} : eqKind c (.tup b) = true := rfl
theorem ek_lst {b : List D} : eqKind c (.lst b) = true := rfl
end
theorem cut_nat {α : Type} {xs : List α} {n : Nat} : cutL xs none (some (n : Int)) = xs.take n := cut_hi (by omega)
theorem take_map' {α β : Type} {f : α → β} {xs : List α} {n : Nat} : (xs.map f).take n = (xs.take n).map f := List.map_take.symm
theorem drop_map' {α β : Type} {f : α → β} {xs : List α} {n : Nat} : (xs.map f).drop n = (xs.drop n).map f := List.map_drop.symm
theorem set_map' {α β : Type} {f : α → β} {xs : List α} {n : Nat} {x : α} {y : β} (h : f x = y) : (xs.map f).set n y = (xs.set n x).map f := by rw [← h, List.map_set]
theorem rep_flat {α : Type} {n : Nat} {x : α} : (List.replicate n [x]).flatten = List.replicate n x := by
  induction n with
  | zero => rfl
  | succ n ih => rw [List.replicate_succ, List.flatten_cons, ih]; rfl
theorem lD0 {l : L3} : oIx (lD l) (.int 0) = some (.int l.1) := rfl
theorem lD1 {l : L3} : oIx (lD l) (.int 1) = some (.int l.2.1) := rfl
theorem lD2 {l : L3} : oIx (lD l) (.int 2) = some (.int l.2.2) := rfl
theorem oD_n : oD none = .non := rfl
theorem oD_s {i : Int} : oD (some i) = .int i := rfl
theorem x_bTup3 {bs : List Bd} {l : L3} {E : Nv} : bTup bs (lD l) E = bAll bs [.int l.1, .int l.2.1, .int l.2.2] E := rfl
theorem itR_int {j : Int} (h0 : 0 ≤ j) (h : j ≤ 1000000) : itR [.int j] = some (rangeD 0 j.toNat) := by
  rw [x_itR1, if_pos]; rw [B62_def]; omega
theorem itR_nat {n : Nat} (h : n ≤ 1000000) : itR [.int (n : Int)] = some (rangeD 0 n) := by rw [itR_int (by omega) (by omega)]; rfl
theorem itR_two {i j : Int} (h0 : 0 ≤ i) (h : i ≤ 1000000) (h1 : 0 ≤ j) (h2 : j ≤ 1000000) : itR [.int i, .int j] = some (rangeD i (j - i).toNat) := by
  rw [x_itR2, if_pos]; rw [B62_def, B62_def]; omega
theorem rTL {x : D} : rIsT (some x) (some [.ty "tuple", .ty "list"]) = (tyName x).bind fun t => some (.bl (subTy t "tuple" || subTy t "list")) := by
  have h2 : (2 : Nat) ≤ sizeLine := sl16 (by omega)
  have ht : tyNames [.ty "tuple", .ty "list"] = some ["tuple", "list"] := by
    unfold tyNames tyNames tyNames
    simp only [tgs_tuple, tgs_list, if_true]
  unfold rIsT
  simp only
  cases tyName x with
  | none => rfl
  | some t => simp [ht, h2]
def nxK (M : Nv → Prop) (_ : Tg M) (fl : Fl) (E : Nv) : Prop := match fl with
  | .nx => M E
  | _ => False
theorem nxK_nx {M : Nv → Prop} {g : Tg M} {E : Nv} : nxK M g .nx E = M E := rfl
/-- what holds between two statements -/
theorem seq_cut {s t : Nv → R Fl} {Q : Fl → Nv → Prop} {E : Nv} (M : Nv → Prop) (h1 : run (nxK M ()) () (s E)) (h2 : ∀ E, M E → run Q () (t E)) : run Q () (fSeq s t E) := by
  rw [x_seq]
  refine wp_imp h1 fun fl E1 q => ?_
  cases fl with
  | nx => exact h2 E1 q
  | _ => exact q.elim
theorem call_byN {fn : Fn} {as : List Sl} {Q P : D → List Sl → Prop} {g : Tg Q} (h : wpN (fn as) P) (k : ∀ d bs, P d bs → Q d bs) : runN Q g (fn as) := by
  unfold runN
  cases z : fn as with
  | new d bs => rw [z] at h; exact k d bs h
  | val _ _ => rw [z] at h; exact h
  | exc _ _ _ => rw [z] at h; exact h
  | bad => rw [z] at h; exact h
end FL

namespace FL
open PySem PySem.Spec PyProof.Rows L2

/-! ## raising an own exception of one field -/
def fRaise1 (c : Nat) (n : Str) (f : Nv → R D) : Nv → R Fl := fun E => (f E).bind fun d E1 => .exc c (some (n, d)) E1
def spI (K : PySem.W.Frag) (n : Str) : Sp := fun vs H Q _ => ∃ (a C : Addr) (v : V), vs = [.ref a, v] ∧ OexC K C ∧ PySem.W.findIn K (.ref C) n = some none ∧ H a = some (exo a C none) ∧
  ∀ dx, H dx = none → dx ≠ a → Q .non (upd (upd H dx (exd dx [(n, v)])) a (exo a C (some dx)))
theorem spI_len {K : PySem.W.Frag} {n : Str} {vs : List V} {H : Hp} {Q : VK} {E : XK} (h : spI K n vs H Q E) : vs.length = 2 := by
  obtain ⟨_, _, _, rfl, _⟩ := h; rfl
theorem init_read {K : PySem.W.Frag} {n : Str} {N : List Str} {vs : List V} {H : Hp} {Q : VK} {E : XK} (h : spI K n vs H Q E) : tOst K n (tVar 0) (tVar 1) { nx := fun _ H' => Q .non H', rt := Q } (L2.start N vs) H := by
  obtain ⟨a, C, v, rfl, T, hno, ha, q⟩ := h
  exact ⟨v, rfl, .ref a, rfl, a, C, rfl, T, hno, .inl ⟨ha, q⟩⟩
section
variable {X : Cx} {g : Gm} {W : WX} {e : Expr} {p pos pos2 : Pos}
theorem passF {X : Cx} : Passes (L2.CX X.prog X.w) X (fun _ _ _ => False) := fun _ _ _ _ _ _ I c => takes0 _ _ (XE.of_call I (fun _ _ _ h => h) c)
theorem oex_heap {H1 : Hp} {a C dx : Addr} {n : Str} {v : V} (ha : H1 a = none) (h1 : H1 dx = none) (h2 : dx ≠ a) :
    upd (del (upd (upd (upd H1 a (exo a C none)) dx (exd dx [(n, v)])) a (exo a C (some dx))) a) dx (.xd [(n, v)]) = upd H1 dx (.xd [(n, v)]) := by
  funext b
  by_cases hb : b = dx
  · rw [hb, upd_same, upd_same]
  · rw [upd_ne hb, upd_ne hb]
    by_cases hba : b = a
    · rw [hba, del_same, ha]
    · rw [del_ne hba, upd_ne hba, upd_ne hb, upd_ne hba]
theorem fs_raise1 {c : Nat} {n x : Str} {f : Nv → R D} {fI : Addr} {k : Nat} {fd : FuncData} {ps : List Str} (hc : X.calm = true) (tk : Takes X W) (T : OexC X.K (g.xcl c)) (iC : PySem.W.findIn X.K (.ref (g.xcl c)) "__init__" = some (some (.ref fI)))
    (tI : PySem.W.typeIn X.K (.ref fI) = some (.type "function")) (hno : PySem.W.findIn X.K (.ref (g.xcl c)) n = some none) (F1 : FnOk X.prog X.w X.K X.mg X.base (L2.CX X.prog X.w) k fI fd ps (spI X.K n)) (hr : Room (k + 1) X.A) (hb : Binds X.K fd ps [])
    (hg : Gl X x) (hm : X.mg x = some (.ref (g.xcl c))) (ha : FE X g W e f) (hdb : (x == ("__debug__" : Str)) = false := by decide)
    (he : starEach (e :: []) X.env = (false, eval e X.env) :: starEach [] X.env := by rfl) (hpl : (backTo pos (starEach [] X.env)).any (·.1) = false := by rfl) :
    FS X g W (.Raise (some (.Call (.Name x p) (e :: []) [] pos)) none pos2) (fRaise1 c n f) :=
  psImp (ps_raise hc tk (pmk_oex T iC tI F1 hr hb .nil passF hg hm (pa_cons ha pa_nil he) hdb he hpl)) fun D σ H ⟨ρ, G, E, F, st, q⟩ => by
    refine bindS st q fun d E1 v F1 H1 st1 s1 r1 q1 => ?_
    refine ⟨by simp, fun a ha => ⟨a, g.xcl c, v, rfl, T, hno, upd_same, fun dx h1 h2 => ?_⟩⟩
    have h1' : H1 dx = none := by rw [upd_ne h2] at h1; exact h1
    refine ⟨rfl, dx, [(n, v)], upd_same, ?_, h1', ?_⟩
    · rw [upd_ne h2, upd_same]
    · rw [oex_heap ha h1' h2]
      have hF := st1.fF h1'
      exact q1 (some dx) σ (upd F1 dx (.xd [(n, v)])) (upd H1 dx (.xd [(n, v)])) (st1.grow h1' _) (Same.new hF) ⟨dx, v, rfl, upd_same, r1.mono (Same.new hF)⟩
end

/-! ## a caught exception's expressions: c its class, fs its field -/
abbrev Xv := Nat → Option (Str × D) → Option D
def tX (g : Gm) (i : Nat) (a : Addr) (cls : Value) (d : Option Addr) (v : Xv) : TE := fun σ H Q => ∃ ρ G E F c fs, StOk g ρ G E F σ H ∧ σ[i]? = some (some (.ref a)) ∧ cls = .ref (g.xcl c) ∧ XRep g F fs d ∧
  ∃ z, v c fs = some z ∧ ∀ u F' H', StOk g ρ G E F' σ H' → Same F F' → Rep g F' z u → Q u H'
def tXs (g : Gm) (i : Nat) (a : Addr) (cls : Value) (d : Option Addr) (v : Nat → Option (Str × D) → Option (List D)) : TA := fun σ H Q => ∃ ρ G E F c fs, StOk g ρ G E F σ H ∧ σ[i]? = some (some (.ref a)) ∧ cls = .ref (g.xcl c) ∧ XRep g F fs d ∧
  ∃ z, v c fs = some z ∧ ∀ u F' H', StOk g ρ G E F' σ H' → Same F F' → RepL g F' z u → Q u H'
def tXb (g : Gm) (i : Nat) (a : Addr) (cls : Value) (d : Option Addr) (v : Nat → Option (Str × D) → Option Bool) : TT := fun σ H Q => ∃ ρ G E F c fs, StOk g ρ G E F σ H ∧ σ[i]? = some (some (.ref a)) ∧ cls = .ref (g.xcl c) ∧ XRep g F fs d ∧
  ∃ z, v c fs = some z ∧ ∀ F' H', StOk g ρ G E F' σ H' → Same F F' → Q z H'
def xC (z : D) : Xv := fun _ _ => some z
def xFld (c0 : Nat) (n : Str) : Xv := fun c fs => if c = c0 then (match fs with
  | some (m, x) => if m = n then some x else none
  | none => none) else none
def xIs (k : Nat → Bool) : Xv := fun c _ => some (.bl (k c))
def xAnd (a b : Xv) : Xv := fun c fs => match a c fs with
  | some (.bl true) => b c fs
  | some (.bl false) => some (.bl false)
  | _ => none
def xB (a : Xv) : Nat → Option (Str × D) → Option Bool := fun c fs => (a c fs).bind asB
def xAndB (a b : Nat → Option (Str × D) → Option Bool) : Nat → Option (Str × D) → Option Bool := fun c fs => match a c fs with
  | some true => b c fs
  | some false => some false
  | none => none
def xIf (t : Nat → Option (Str × D) → Option Bool) (a b : Xv) : Xv := fun c fs => match t c fs with
  | some true => a c fs
  | some false => b c fs
  | none => none
def xNil : Nat → Option (Str × D) → Option (List D) := fun _ _ => some []
def xCons (a : Xv) (b : Nat → Option (Str × D) → Option (List D)) : Nat → Option (Str × D) → Option (List D) := fun c fs => match a c fs, b c fs with
  | some x, some xs => some (x :: xs)
  | _, _ => none
def xTup (a : Nat → Option (Str × D) → Option (List D)) : Xv := fun c fs => match a c fs with
  | some xs => if xs.length ≤ sizeLine then some (.tup xs) else none
  | none => none
def xLst (a : Nat → Option (Str × D) → Option (List D)) : Xv := fun c fs => match a c fs with
  | some xs => if xs.length ≤ sizeLine then some (.lst xs) else none
  | none => none
section
variable {Y : Cx} {g : Gm} {i : Nat} {a : Addr} {cls : Value} {d : Option Addr} {e e2 e3 : Expr} {es : List Expr} {pos : Pos}
theorem sx_c {u : V} (h : PE Y e (tC u)) (z : D) (r : ∀ F, Rep g F z u) : PE Y e (tX g i a cls d (xC z)) := peImp h fun σ H Q ⟨ρ, G, E, F, c, fs, st, hs, hc, hx, z', hz, q⟩ => by
  cases hz
  exact q u F H st (Same.refl _) (r F)
theorem sx_and {v w : Xv} {rest : List Expr} (h1 : PE Y e (tX g i a cls d v)) (h2 : PE Y (.BoolOp .And (e2 :: rest) pos) (tX g i a cls d w)) : PE Y (.BoolOp .And (e :: e2 :: rest) pos) (tX g i a cls d (xAnd v w)) :=
  peImp (pe_and h1 h2) fun σ H Q ⟨ρ, G, E, F, c, fs, st, hs, hc, hx, z, hz, q⟩ => by
    unfold xAnd at hz
    cases hv : v c fs with
    | none => simp [hv] at hz
    | some y =>
      cases y with
      | bl b =>
        refine ⟨ρ, G, E, F, c, fs, st, hs, hc, hx, _, hv, fun u F1 H1 st1 s1 r1 => ?_⟩
        obtain rfl : u = .bl b := r1
        refine ⟨b, rfl, ?_⟩
        cases b with
        | true =>
          rw [if_pos rfl]
          simp only [hv] at hz
          exact ⟨ρ, G, E, F1, c, fs, st1, hs, hc, hx.mono s1, z, hz, fun u F2 H2 st2 s2 r2 => q u F2 H2 st2 (s1.trans s2) r2⟩
        | false =>
          rw [if_neg Bool.false_ne_true]
          simp only [hv] at hz
          cases hz
          exact q _ F1 H1 st1 s1 rfl
      | _ => simp [hv] at hz
theorem sb_val {v : Xv} (h : PT Y e (tB (tX g i a cls d v))) : PT Y e (tXb g i a cls d (xB v)) := ptImp h fun σ H Q ⟨ρ, G, E, F, c, fs, st, hs, hc, hx, z, hz, q⟩ => by
  unfold xB at hz
  cases hv : v c fs with
  | none => simp [hv] at hz
  | some y =>
    refine ⟨ρ, G, E, F, c, fs, st, hs, hc, hx, _, hv, fun u F1 H1 st1 s1 r1 => ?_⟩
    cases y with
    | bl b =>
      obtain rfl : u = .bl b := r1
      simp only [hv, Option.bind_some, asB, Option.some.injEq] at hz
      subst hz
      exact ⟨_, rfl, q F1 H1 st1 s1⟩
    | _ => simp [hv, asB] at hz
theorem sw_and {v w : Nat → Option (Str × D) → Option Bool} {rest : List Expr} (h1 : PT Y e (tXb g i a cls d v)) (h2 : PW Y (.BoolOp .And (e2 :: rest) pos) (tXb g i a cls d w)) : PW Y (.BoolOp .And (e :: e2 :: rest) pos) (tXb g i a cls d (xAndB v w)) :=
  pwImp (pw_and h1 h2) fun σ H Q ⟨ρ, G, E, F, c, fs, st, hs, hc, hx, z, hz, q⟩ => by
    unfold xAndB at hz
    cases hv : v c fs with
    | none => simp [hv] at hz
    | some b =>
      refine ⟨ρ, G, E, F, c, fs, st, hs, hc, hx, _, hv, fun F1 H1 st1 s1 => ?_⟩
      cases b with
      | true =>
        rw [if_pos rfl]
        simp only [hv] at hz
        exact ⟨ρ, G, E, F1, c, fs, st1, hs, hc, hx.mono s1, z, hz, fun F2 H2 st2 s2 => q F2 H2 st2 (s1.trans s2)⟩
      | false =>
        rw [if_neg Bool.false_ne_true]
        simp only [hv] at hz
        cases hz
        exact q F1 H1 st1 s1
theorem sx_if {t : Nat → Option (Str × D) → Option Bool} {v w : Xv} (ht : PT Y e (tXb g i a cls d t)) (h1 : PE Y e2 (tX g i a cls d v)) (h2 : PE Y e3 (tX g i a cls d w)) : PE Y (.IfExp e e2 e3 pos) (tX g i a cls d (xIf t v w)) :=
  peImp (pe_ifExp ht h1 h2) fun σ H Q ⟨ρ, G, E, F, c, fs, st, hs, hc, hx, z, hz, q⟩ => by
    unfold xIf at hz
    cases hv : t c fs with
    | none => simp [hv] at hz
    | some b =>
      refine ⟨ρ, G, E, F, c, fs, st, hs, hc, hx, _, hv, fun F1 H1 st1 s1 => ?_⟩
      simp only [hv] at hz
      cases b with
      | true =>
        rw [if_pos rfl]
        exact ⟨ρ, G, E, F1, c, fs, st1, hs, hc, hx.mono s1, z, hz, fun u F2 H2 st2 s2 r2 => q u F2 H2 st2 (s1.trans s2) r2⟩
      | false =>
        rw [if_neg Bool.false_ne_true]
        exact ⟨ρ, G, E, F1, c, fs, st1, hs, hc, hx.mono s1, z, hz, fun u F2 H2 st2 s2 r2 => q u F2 H2 st2 (s1.trans s2) r2⟩
theorem sxs_nil : PA Y [] (tXs g i a cls d xNil) := paImp pa_nil fun σ H Q ⟨ρ, G, E, F, c, fs, st, hs, hc, hx, z, hz, q⟩ => by
  cases hz
  exact q [] F H st (Same.refl _) rfl
theorem sxs_cons {v : Xv} {w : Nat → Option (Str × D) → Option (List D)} (h : PE Y e (tX g i a cls d v)) (k : PA Y es (tXs g i a cls d w)) (hs : starEach (e :: es) Y.env = (false, eval e Y.env) :: starEach es Y.env := by rfl) :
    PA Y (e :: es) (tXs g i a cls d (xCons v w)) := paImp (pa_cons h k hs) fun σ H Q ⟨ρ, G, E, F, c, fs, st, hs, hc, hx, z, hz, q⟩ => by
  unfold xCons at hz
  cases hv : v c fs with
  | none => simp [hv] at hz
  | some y =>
    cases hw : w c fs with
    | none => simp [hv, hw] at hz
    | some ys =>
      simp only [hv, hw, Option.some.injEq] at hz
      subst hz
      refine ⟨ρ, G, E, F, c, fs, st, hs, hc, hx, _, hv, fun u F1 H1 st1 s1 r1 => ?_⟩
      exact ⟨ρ, G, E, F1, c, fs, st1, hs, hc, hx.mono s1, _, hw, fun us F2 H2 st2 s2 r2 => q (u :: us) F2 H2 st2 (s1.trans s2) ⟨u, us, rfl, r1.mono s2, r2⟩⟩
theorem sx_tup {w : Nat → Option (Str × D) → Option (List D)} {x1} (h : PA Y es (tXs g i a cls d w)) : PE Y (.Tuple es x1 pos) (tX g i a cls d (xTup w)) := peImp (pe_tup h) fun σ H Q ⟨ρ, G, E, F, c, fs, st, hs, hc, hx, z, hz, q⟩ => by
  unfold xTup at hz
  cases hw : w c fs with
  | none => simp [hw] at hz
  | some ys =>
    simp only [hw] at hz
    obtain ⟨hl, rfl⟩ := iteSome hz
    refine ⟨ρ, G, E, F, c, fs, st, hs, hc, hx, _, hw, fun us F1 H1 st1 s1 r1 => ⟨by rw [← r1.length]; exact hl, fun p hp => ?_⟩⟩
    have hf := st1.fF hp
    exact q _ _ _ (st1.grow hp _) (s1.trans (Same.new hf)) ⟨p, us, rfl, .inl (.inl upd_same), r1.mono (Same.new hf)⟩
theorem sx_lst {w : Nat → Option (Str × D) → Option (List D)} (h : PA Y es (tXs g i a cls d w)) : PE Y (.List es pos) (tX g i a cls d (xLst w)) := peImp (pe_lst h) fun σ H Q ⟨ρ, G, E, F, c, fs, st, hs, hc, hx, z, hz, q⟩ => by
  unfold xLst at hz
  cases hw : w c fs with
  | none => simp [hw] at hz
  | some ys =>
    simp only [hw] at hz
    obtain ⟨hl, rfl⟩ := iteSome hz
    refine ⟨ρ, G, E, F, c, fs, st, hs, hc, hx, _, hw, fun us F1 H1 st1 s1 r1 => ⟨by rw [← r1.length]; exact hl, fun p hp => ?_⟩⟩
    have hf := st1.fF hp
    exact q _ _ _ (st1.grow hp _) (s1.trans (Same.new hf)) ⟨p, us, rfl, upd_same, r1.mono (Same.new hf)⟩
end
section
variable {X : Cx} {g : Gm} {i : Nat} {a : Addr} {oe : Obj} {cls : Value} {d : Option Addr} {pn : List (Addr × Obj)} {e e2 : Expr} {pos : Pos} {n : Str}
/-- e.f -/
theorem sx_fld {c0 : Nat} (T : XfC X.K (g.xcl c0)) (hno : PySem.W.findIn X.K (.ref (g.xcl c0)) n = some none) (hz : Zc cls d oe) (hf : ∃ vs, oe.data = .fields vs) (he : PE (X.suite a ((a, oe) :: pn)) e (tVar i))
    (hb : attributeBase e n X.env (eval e X.env) = eval e X.env := by rfl) : PE (X.suite a ((a, oe) :: pn)) (.Attribute e n pos) (tX g i a cls d (xFld c0 n)) :=
  peImp (pe_xf T hno hz hf he hb) fun σ H Q ⟨ρ, G, E, F, c, fs, st, hs, hc, hx, z, hz, q⟩ => by
    unfold xFld at hz
    by_cases hcc : c = c0
    · subst hcc
      rw [if_pos rfl] at hz
      cases fs with
      | none => cases hz
      | some p =>
        obtain ⟨m, x⟩ := p
        simp only at hz
        by_cases hm : m = n
        · subst hm
          rw [if_pos rfl] at hz
          cases hz
          obtain ⟨dd, v, rfl, hd, r⟩ := hx
          exact ⟨.ref a, hs, rfl, hc, dd, [(m, v)], v, rfl, st.sf _ _ hd, by simp [List.lookup], q v F H st (Same.refl _) r⟩
        · rw [if_neg hm] at hz; cases hz
    · rw [if_neg hcc] at hz; cases hz
/-- what the class of an exception must say for isinstance -/
structure ExcT (K : PySem.W.Frag) (C : Addr) : Prop where
  cl : (PySem.W.clsIn K C).isSome = true
  ga : PySem.W.findIn K (.ref C) "__getattribute__" = some (some (.builtin "BaseException.__getattribute__"))
  gt : PySem.W.findIn K (.ref C) "__getattr__" = some none
  sb : PySem.W.subIn K (.ref C) (.type "BaseException") = some true
  ca : PySem.W.findIn K (.ref C) "__class__" = some (some (.builtin "object.__class__"))
  cn : PySem.W.specialIn K (.builtin "object.__class__") "__get__" = some (some (.builtin "getset_descriptor.__get__"))
  ct : PySem.W.takesIn K (.builtin "object.__class__") = some true
  cm : PySem.W.mroIn K C (.type "object") = some true
def rIsX (K : PySem.W.Frag) (a C : Addr) (d : Option Addr) : List V → Hp → VK → Prop := fun xs H Q => ∃ (c : V) (cv : Value) (b : Bool), xs = [.ref a, c] ∧ (∀ u, RelV c u → u = cv) ∧ PySem.W.kitOne K (.ref C) cv = some b ∧ (∀ dd, d = some dd → ∃ fs, H dd = some (.xd fs)) ∧ Q (.bl b) H
theorem call_isX {C : Addr} (T : ExcT X.K C) (hz : Zc (.ref C) d oe) (hf : ∃ vs, oe.data = .fields vs) : CallR (X.suite a ((a, oe) :: pn)) (.builtin "isinstance") (rIsX X.K a C d) := by
  rintro pins s σ H xs us Q I r ⟨c, cv, b, rfl, hcv, hk, hd, q⟩
  obtain ⟨ua, ut, rfl, ra, rt⟩ : ∃ ua ut, us = [ua, ut] ∧ RelV (.ref a) ua ∧ RelV c ut := by
    cases r with
    | cons h1 h2 => cases h2 with
      | cons h3 h4 => cases h4; exact ⟨_, _, rfl, h1, h3⟩
  cases ra
  have et := hcv ut rt
  subst et
  have mem : (a, oe) ∈ ((a, oe) :: pn) ++ pins := List.mem_append_left _ (List.mem_cons_self ..)
  have hget := (I.pin (a, oe) mem).1
  obtain ⟨vs, hv⟩ := hf
  have nc : PySem.W.notCls oe = true := by unfold PySem.W.notCls; rw [hv] <;> rfl
  obtain ⟨od, J⟩ : ∃ od, PySem.W.InstAt s.heap a oe C od := by
    cases d with
    | none => exact ⟨none, hget, hz.1, nc, by rw [hz.2]; trivial⟩
    | some dd =>
      obtain ⟨fs, hdd⟩ := hd dd rfl
      obtain ⟨mA, hns, _⟩ := I.hok dd _ hdd
      obtain ⟨od, ho, _⟩ := lookIn_ns hns
      exact ⟨some od, hget, hz.1, nc, by rw [hz.2]; exact ho⟩
  exact PySem.W.kia_one (PySem.W.kitx_exc T.cl T.ga T.gt T.sb T.ca T.cn T.ct T.cm) I.kIn J hk (fun z => nomatch z) fun tk => ⟨.bl b, H, I.kept (t' := tk) fun _ _ z => z, rfl, q⟩
theorem sx_isi {x : Str} {p : Pos} {k : Nat → Bool} {cv : V} {cu : Value} (T : ∀ c, ExcT X.K (g.xcl c)) (hk : ∀ c, PySem.W.kitOne X.K (.ref (g.xcl c)) cu = some (k c)) (hcu : ∀ u, RelV cv u → u = cu) (hz : Zc cls d oe) (hf : ∃ vs, oe.data = .fields vs)
    (he : PE (X.suite a ((a, oe) :: pn)) e (tVar i)) (he2 : PE (X.suite a ((a, oe) :: pn)) e2 (tC cv)) (hg : Gl (X.suite a ((a, oe) :: pn)) x) (hm : X.mg x = none) (hv : bootBuiltins x = some (.builtin "isinstance"))
    (hn : x ≠ "__name__" := by decide) (hdb : (x == ("__debug__" : Str)) = false := by decide) 
    (h1 : starEach (e :: e2 :: []) X.env = (false, eval e X.env) :: starEach (e2 :: []) X.env := by rfl) (h2 : starEach (e2 :: []) X.env = (false, eval e2 X.env) :: starEach [] X.env := by rfl)
    (hpl : (backTo pos (starEach (e2 :: []) X.env)).any (·.1) = false := by rfl) : PE (X.suite a ((a, oe) :: pn)) (.Call (.Name x p) (e :: e2 :: []) [] pos) (tX g i a cls d (xIs k)) := by
  refine ⟨fun pins s σ H Q I h => ?_⟩
  obtain ⟨ρ, G, E, F, c, fs, st, hs, hc, hx, z, hz', q⟩ := h
  have hz2 : Zc (.ref (g.xcl c)) d oe := by rw [← hc]; exact hz
  refine (pe_callB (X := X.suite a ((a, oe) :: pn)) (call_isX (pn := pn) (T c) hz2 hf) hg hm hv (pa_cons he (pa_cons he2 pa_nil h2) h1) hn hdb h1 hpl).run pins s σ H Q I ?_
  refine ⟨.ref a, hs, cv, cu, k c, rfl, hcu, hk c, fun dd hd => ?_, ?_⟩
  · subst hd
    cases fs with
    | none => cases (show some dd = none from hx)
    | some p =>
      obtain ⟨m, y⟩ := p
      obtain ⟨a', v', e', hF, _⟩ := hx
      cases e'
      exact ⟨_, st.sf _ _ hF⟩
  · cases hz'
    exact q _ F H st (Same.refl _) rfl
end

/-! ## try: .. except X as n: one statement -/
def hRet (v : Xv) : Nat → Option (Str × D) → Nv → R Fl := fun c fs E => match v c fs with
  | some d => .val (.rt d) E
  | none => .bad
def hSet (j : Nat) (v : Xv) : Nat → Option (Str × D) → Nv → R Fl := fun c fs E => match v c fs with
  | some d => .val .nx (E.set j (.fz d))
  | none => .bad
def fTry1 (i : Nat) (tst : Nat → Bool) (body : Nv → R Fl) (h : Nat → Option (Str × D) → Nv → R Fl) : Nv → R Fl := fun E => match body E with
  | .exc c fs E1 => if tst c = true then (if i < E1.length then h c fs (E1.set i .no) else .bad) else .exc c fs E1
  | r => r
/-- what the suite may leave -/
def tH (g : Gm) (i : Nat) (a : Addr) (cls : Value) (d : Option Addr) (h : Nat → Option (Str × D) → Nv → R Fl) : TS := fun D σ H => ∃ ρ G E F c fs, StOk g ρ G E F σ H ∧ σ[i]? = some (some (.ref a)) ∧ cls = .ref (g.xcl c) ∧ XRep g F fs d ∧
  postS g W0 ρ G F D (h c fs E)
/-- a handler's end: it returns, or goes on with slot i forgotten -/
def Tame (i : Nat) (h : Nat → Option (Str × D) → Nv → R Fl) : Prop := ∀ (c : Nat) (fs : Option (Str × D)) (E : Nv), (∃ d E2, h c fs (E.set i .no) = .val (.rt d) E2) ∨ (∃ E2, h c fs (E.set i .no) = .val .nx E2 ∧ (E2[i]? = some .no ∨ E2[i]? = none)) ∨ h c fs (E.set i .no) = .bad
theorem tame_ret {i : Nat} {v : Xv} : Tame i (hRet v) := fun c fs E => by
  unfold hRet
  cases v c fs with
  | none => exact .inr (.inr rfl)
  | some d => exact .inl ⟨d, _, rfl⟩
theorem tame_set {i j : Nat} {v : Xv} (hij : j ≠ i) : Tame i (hSet j v) := fun c fs E => by
  unfold hSet
  cases v c fs with
  | none => exact .inr (.inr rfl)
  | some d =>
    refine .inr (.inl ⟨_, rfl, ?_⟩)
    rw [List.getElem?_set_ne hij]
    by_cases hi : i < E.length
    · exact .inl (List.getElem?_set_self hi)
    · exact .inr (by rw [List.getElem?_eq_none]; simpa using hi)
section
variable {X : Cx} {g : Gm} {W : WX} {x n : Str} {c : Value} {i : Nat} {body suite : List Stmt} {b₀ : Stmt} {np pos pos' : Pos}
theorem fs_try1 {tst : Nat → Bool} {sb : Nv → R Fl} {h : Nat → Option (Str × D) → Nv → R Fl} (hs : X.stack = X.env :: X.outer) (hf : X.env.frame = some X.env.locals) (hN : X.N.Nodup) (hi : X.N[i]? = some n) (hln : X.env.kindOf n = some .local) (hc : Names X x c) (tk : Takes X W)
    (ht : ∀ k, PySem.W.exmOne X.K (.ref (g.xcl k)) c = some (tst k)) (tame : Tame i h)
    (hb : ∀ (W' : WX) (pn : List (Addr × Obj)) (xe : Value → Shared → Prop), Takes (X.tr pn xe) W' → PassesOwn (model X.prog X.w) X.A X.env xe → FSs (X.tr pn xe) g W' body sb)
    (hsu : ∀ (a : Addr) (oe : Obj) (cls : Value) (d : Option Addr) (pn : List (Addr × Obj)), Zc cls d oe → (∃ vs, oe.data = .fields vs) → PSs (X.suite a ((a, oe) :: pn)) (b₀ :: suite) (tH g i a cls d h)) :
    FS X g W (.Try body [.ExceptHandler (some (.Name x np)) (some n) (b₀ :: suite) pos'] [] [] pos) (fTry1 i tst sb h) :=
  psImp (ps_try_as (tb := fun W' => tS g W' sb) (ts := fun a cls d => tH g i a cls d h) (Wout := W) hs hf hN hi hln hc tk (fun W' pn xe t po => hb W' pn xe t po) (fun a oe cls d pn z f => hsu a oe cls d pn z f)) fun D σ H ⟨ρ, G, E, F, st, q⟩ => by
    refine ⟨ρ, G, E, F, st, ?_⟩
    revert q
    unfold fTry1
    cases sb E with
    | bad => exact fun q => q
    | val fl E1 => cases fl <;> exact fun q => q
    | exc k fs E1 =>
      intro q dx σ' F' H' st' ss xr
      refine ⟨tst k, ht k, fun hk a hna => ?_, fun hk => ?_⟩
      · simp only [hk, if_true] at q
        have hil : i < E1.length := by
          by_cases hil : i < E1.length
          · exact hil
          · rw [if_neg hil] at q; exact q.elim
        rw [if_pos hil] at q
        have st2 : StOk g ρ G (E1.set i .no) F' (σ'.set i (some (.ref a))) H' := st'.reslot (by simp [st'.len]) fun j s e => by
          by_cases hj : j = i
          · subst hj
            rw [List.getElem?_set_self (by simpa using (List.getElem?_eq_some_iff.mp e).1)] at e
            exact .inr (.inl (Option.some.inj e).symm)
          · rw [List.getElem?_set_ne (Ne.symm hj)] at e
            exact .inl ⟨e, List.getElem?_set_ne (Ne.symm hj)⟩
        have hi' : i < σ'.length := by
          rw [← st'.len]; exact hil
        refine ⟨ρ, G, E1.set i .no, F', k, fs, st2, List.getElem?_set_self hi', rfl, xr, ?_⟩
        have q2 := postS.mono ss q
        rcases tame k fs E1 with ⟨d, E2, e⟩ | ⟨E2, e, no⟩ | e
        · rw [e] at q2 ⊢
          exact q2
        · rw [e] at q2 ⊢
          intro σ2 F2 H2 st3 s3
          refine q2 (σ2.set i none) F2 H2 (st3.reslot (by rw [List.length_set]; exact st3.len) fun j s e' => ?_) s3
          by_cases hj : j = i
          · subst hj
            rcases no with no | no
            · rw [no] at e'; exact .inr (.inl (Option.some.inj e').symm)
            · rw [no] at e'; cases e'
          · exact .inl ⟨e', List.getElem?_set_ne (Ne.symm hj)⟩
        · rw [e] at q2
          exact q2.elim
      · simp only [hk, if_false, Bool.false_eq_true] at q
        exact q dx σ' F' H' st' ss xr
theorem ss_ret {a : Addr} {oe : Obj} {cls : Value} {d : Option Addr} {pn : List (Addr × Obj)} {e : Expr} {v : Xv} (h : PE (X.suite a ((a, oe) :: pn)) e (tX g i a cls d v)) : PSs (X.suite a ((a, oe) :: pn)) [.Return (some e) pos] (tH g i a cls d (hRet v)) :=
  pssImp (pss_one (ps_ret h)) fun D σ H ⟨ρ, G, E, F, c, fs, st, hs, hc, hx, q⟩ => by
    unfold hRet at q
    cases hv : v c fs with
    | none => simp only [hv] at q; exact q.elim
    | some z =>
      simp only [hv] at q
      exact ⟨ρ, G, E, F, c, fs, st, hs, hc, hx, z, hv, fun u F' H' st' s r => q u σ F' H' st' s r⟩
theorem ss_set {j : Nat} {st0 : Stmt} {a : Addr} {oe : Obj} {cls : Value} {d : Option Addr} {pn : List (Addr × Obj)} {v : Xv} (h : PS (X.suite a ((a, oe) :: pn)) st0 (tAsg (tX g i a cls d v) (gName j))) : PSs (X.suite a ((a, oe) :: pn)) [st0] (tH g i a cls d (hSet j v)) :=
  pssImp (pss_one h) fun D σ H ⟨ρ, G, E, F, c, fs, st, hs, hc, hx, q⟩ => by
    unfold hSet at q
    cases hv : v c fs with
    | none => simp only [hv] at q; exact q.elim
    | some z =>
      simp only [hv] at q
      exact ⟨ρ, G, E, F, c, fs, st, hs, hc, hx, z, hv, fun u F' H' st' s r => q _ F' H' (st'.store r) s⟩
end
end FL

namespace FL
open PySem PySem.Spec PyProof.Rows L2

/-! ## a comprehension of two fors -/
def lc2L (b : Bd) (t : Nv → R Bool) (fi1 : Nv → R (List D)) (b1 : Bd) (t1 : Nv → R Bool) (f : Nv → R D) (vs vs1 : List Nat) : List D → List D → Nv → R (List D)
  | [], acc, E => .val acc E
  | d :: ds, acc, E => match b d E with
    | none => .bad
    | some E1 => (t E1).nox.bind fun k E2 => if k = true then (fi1 E2).nox.bind fun ds1 E3 => (lcL b1 t1 f vs1 ds1 acc (wipeE E3 vs1)).bind fun acc' E4 => lc2L b t fi1 b1 t1 f vs vs1 ds acc' (wipeE E4 vs)
      else lc2L b t fi1 b1 t1 f vs vs1 ds acc (wipeE E2 vs)
def fLc2 (fi : Nv → R (List D)) (b : Bd) (t : Nv → R Bool) (fi1 : Nv → R (List D)) (b1 : Bd) (t1 : Nv → R Bool) (f : Nv → R D) (vs vs1 : List Nat) : Nv → R D := fun E => (fi E).bind fun ds E1 =>
  (lc2L b t fi1 b1 t1 f vs vs1 ds [] (wipeE E1 vs)).bind fun xs E2 => .val (.lst xs) (restoreE E1 E2 vs)
theorem wipe_sub {σ : L2.St} {vs vs1 : List Nat} (h : ∀ i ∈ vs1, i ∈ vs) : wipe (wipe σ vs1) vs = wipe σ vs := wipe_ext (wipe_length _ _) fun i hi => wipe_other fun k => hi (h i k)
theorem noxI {γ : Type} {g : Gm} {ρ : Nat → Addr} {G F H : Hp} {E : Nv} {σ : L2.St} {f : Nv → R (List D)} {k : List D → Nv → R γ} {Q1 : It → Hp → Prop} (P : R γ → Prop) (h : P ((f E).nox.bind k)) (hb : ¬ P .bad) (st : StOk g ρ G E F σ H)
    (cont : ∀ a E1 J F1 H1, StOk g ρ G E1 F1 σ H1 → Same F F1 → Walks g F1 J a → P (k a E1) → Q1 J H1) : tI g W0 f σ H Q1 := by
  refine ⟨ρ, G, E, F, st, ?_⟩
  revert h
  cases f E with
  | val a E1 => exact fun h J F1 H1 st1 s1 w1 => cont a E1 J F1 H1 st1 s1 w1 h
  | exc c fs E' => exact fun h => absurd h hb
  | bad => exact fun h => absurd h hb
section
variable {X : Cx} {g : Gm} {W : WX} {e : Expr} {st : Stmt}
theorem le_lc2 {fi fi1 : Nv → R (List D)} {b b1 : Bd} {tf tf1 : Nv → R Bool} {f : Nv → R D} {vs vs1 : List Nat} {σ : L2.St} {H : Hp} {Q : VK} (hv : ∀ i ∈ vs1, i ∈ vs) (h : tN g W (fLc2 fi b tf fi1 b1 tf1 f vs vs1) σ H Q) :
    tLc2 (tI g W fi) (tGv g vs b) (tG g W0 relB tf) (tI g W0 fi1) (tGv g vs1 b1) (tG g W0 relB tf1) (tG g W0 (relD g) f) vs vs1 σ H Q := by
  obtain ⟨ρ, G, E, F, st, q⟩ := h
  refine ⟨ρ, G, E, F, st, ?_⟩
  unfold fLc2 at q
  revert q
  cases fi E with
  | exc c fs E' => exact fun q => q
  | bad => exact fun q => q
  | val ds E1 =>
    intro q J F1 H1 st1 s1 w D hD
    let fin : List FL.D → Nv → R FL.D := fun xs E2 => .val (.lst xs) (restoreE E1 E2 vs)
    let out : List FL.D → List FL.D → Nv → R (List FL.D) := lc2L b tf fi1 b1 tf1 f vs vs1
    have q : postN g W ρ G F σ Q ((out ds [] (wipeE E1 vs)).bind fin) := q
    have gD := st1.fG hD
    refine ⟨fun i m H => i ≤ ds.length ∧ m = ds.length - i ∧ ∃ F2 E2 acc xs, StOk g ρ (upd G D (.lst xs)) E2 F2 (wipe σ vs) H ∧ RepL g F2 acc xs ∧ Same F1 F2 ∧
      postN g W ρ G F2 σ Q ((out (ds.drop i) acc E2).bind fin), ⟨_, Nat.zero_le _, rfl, F1, wipeE E1 vs, [], [], (st1.temp hD _).wiped vs, rfl, Same.refl _, postN.mono s1 (by simpa using q)⟩, ?_⟩
    rintro i m H2 ⟨hi, rfl, F2, E2, acc, xs, st2, ra, s2, q2⟩
    by_cases hlt : i < ds.length
    · let Nx : Hp → Prop := fun H' => i + 1 ≤ ds.length ∧ ∃ F2 E2 acc xs, StOk g ρ (upd G D (.lst xs)) E2 F2 (wipe σ vs) H' ∧ RepL g F2 acc xs ∧ Same F1 F2 ∧
        postN g W ρ G F2 σ Q ((out (ds.drop (i + 1)) acc E2).bind fin)
      refine .inr ⟨w.goes i H2 F2 s2 st2.sf hlt, Nx, fun H' ⟨a, r⟩ => ⟨ds.length - (i + 1), by omega, a, rfl, r⟩, fun x H3 y => ?_⟩
      obtain ⟨d, F3, hd, gr, r⟩ := w.yields i H2 F2 x H3 s2 st2.sf hlt y
      have hdrop : ds.drop i = d :: ds.drop (i + 1) := by
        rw [List.drop_eq_getElem_cons hlt]
        rw [List.getElem?_eq_getElem hlt] at hd
        rw [Option.some.inj hd]
      rw [hdrop] at q2
      change postN g W ρ G F2 σ Q ((lc2L b tf fi1 b1 tf1 f vs vs1 (d :: ds.drop (i + 1)) acc E2).bind fin) at q2
      unfold lc2L at q2
      cases z : b d E2 with
      | none => simp only [z] at q2; exact q2.elim
      | some E3 =>
        simp only [z] at q2
        refine ⟨ρ, _, E2, F3, d, gr.2 _ _ _ _ st2, r, E3, z, fun σ4 F4 H4 st4 s4 w4 => ⟨w4.trans wipe_wipe, ?_⟩⟩
        rw [wipe_wipe] at w4
        have s14 : Same F2 F4 := gr.1.trans s4
        refine noxE (P := fun r : R (List FL.D) => postN g W ρ G F2 σ Q (r.bind fin)) q2 (fun h => h) st4 fun k E5 c F5 H5 st5 s5 r5 q5 => ?_
        obtain rfl : k = c := r5
        cases k with
        | false =>
          rw [if_neg Bool.false_ne_true] at q5 ⊢
          exact ⟨hlt, F5, _, acc, xs, st5.wiped2 vs w4, ra.mono (s14.trans s5), (s2.trans s14).trans s5, postN.mono (s14.trans s5) q5⟩
        | true =>
          rw [if_pos rfl] at q5 ⊢
          refine noxI (P := fun r : R (List FL.D) => postN g W ρ G F2 σ Q (r.bind fin)) q5 (fun h => h) st5 fun ds1 E6 J1 F6 H6 st6 s6 w6 q6 => ?_
          have s16 := (s14.trans s5).trans s6
          let nxt : List FL.D → Nv → R (List FL.D) := fun acc' E4 => out (ds.drop (i + 1)) acc' (wipeE E4 vs)
          refine ⟨fun j k H => j ≤ ds1.length ∧ k = ds1.length - j ∧ ∃ F7 E7 acc7 xs7, StOk g ρ (upd G D (.lst xs7)) E7 F7 (wipe σ4 vs1) H ∧ RepL g F7 acc7 xs7 ∧ Same F6 F7 ∧
            postN g W ρ G F7 σ Q (((lcL b1 tf1 f vs1 (ds1.drop j) acc7 E7).bind nxt).bind fin), ⟨_, Nat.zero_le _, rfl, F6, wipeE E6 vs1, acc, xs, st6.wiped vs1, ra.mono s16, Same.refl _, postN.mono s16 (by simpa using q6)⟩, ?_⟩
          rintro j k H7 ⟨hj, rfl, F7, E7, acc7, xs7, st7, ra7, s7, q7⟩
          by_cases hlt1 : j < ds1.length
          · refine .inr ⟨w6.goes j H7 F7 s7 st7.sf hlt1, fun H' => j + 1 ≤ ds1.length ∧ ∃ F7 E7 acc7 xs7, StOk g ρ (upd G D (.lst xs7)) E7 F7 (wipe σ4 vs1) H' ∧ RepL g F7 acc7 xs7 ∧ Same F6 F7 ∧
              postN g W ρ G F7 σ Q (((lcL b1 tf1 f vs1 (ds1.drop (j + 1)) acc7 E7).bind nxt).bind fin), fun H' ⟨a, r⟩ => ⟨ds1.length - (j + 1), by omega, a, rfl, r⟩, fun x1 H8 y1 => ?_⟩
            obtain ⟨d1, F8, hd1, gr1, r1⟩ := w6.yields j H7 F7 x1 H8 s7 st7.sf hlt1 y1
            have hdrop1 : ds1.drop j = d1 :: ds1.drop (j + 1) := by
              rw [List.drop_eq_getElem_cons hlt1]
              rw [List.getElem?_eq_getElem hlt1] at hd1
              rw [Option.some.inj hd1]
            rw [hdrop1] at q7
            unfold lcL at q7
            cases z1 : b1 d1 E7 with
            | none => simp only [z1] at q7; exact q7.elim
            | some E8 =>
              simp only [z1] at q7
              refine ⟨ρ, _, E7, F8, d1, gr1.2 _ _ _ _ st7, r1, E8, z1, fun σ9 F9 H9 st9 s9 w9 => ⟨w9.trans wipe_wipe, ?_⟩⟩
              rw [wipe_wipe] at w9
              have s79 : Same F7 F9 := gr1.1.trans s9
              refine noxE (P := fun r : R (List FL.D) => postN g W ρ G F7 σ Q ((r.bind nxt).bind fin)) q7 (fun h => h) st9 fun k E5 c F5 H5 st5 s5 r5 q5 => ?_
              obtain rfl : k = c := r5
              cases k with
              | false =>
                rw [if_neg Bool.false_ne_true] at q5 ⊢
                exact ⟨hlt1, F5, _, acc7, xs7, st5.wiped2 vs1 w9, ra7.mono (s79.trans s5), (s7.trans s79).trans s5, postN.mono (s79.trans s5) q5⟩
              | true =>
                rw [if_pos rfl] at q5 ⊢
                refine noxE (P := fun r : R (List FL.D) => postN g W ρ G F7 σ Q ((r.bind nxt).bind fin)) q5 (fun h => h) st5 fun y E6 v Fa Ha sta sa ra' qa => ?_
                by_cases hz : acc7.length < sizeLine
                · rw [if_pos hz] at qa
                  have s7a := (s79.trans s5).trans sa
                  have hDa : Ha D = some (.lst xs7) := sta.sg _ _ upd_same
                  exact ⟨xs7, hDa, by rw [← ra7.length]; exact hz, hlt1, Fa, _, acc7 ++ [y], xs7 ++ [v], (sta.rewrite gD).wiped2 vs1 w9, (ra7.mono s7a).append (RepL.cons ra' RepL.nil), s7.trans s7a, postN.mono s7a qa⟩
                · rw [if_neg hz] at qa
                  exact qa.elim
          · have e : j = ds1.length := by omega
            subst e
            rw [List.drop_length] at q7
            have q7 : postN g W ρ G F7 σ Q ((out (ds.drop (i + 1)) acc7 (wipeE E7 vs)).bind fin) := q7
            exact .inl ⟨w6.stops H7 F7 s7 st7.sf, hlt, F7, _, acc7, xs7, st7.wiped2 vs ((wipe_sub hv).trans w4), ra7, (s2.trans s16).trans s7, q7⟩
    · have e : i = ds.length := by omega
      subst e
      rw [List.drop_length] at q2
      have q2 : postN g W ρ G F2 σ Q (.val (.lst acc) (restoreE E1 E2 vs)) := q2
      refine .inl ⟨w.stops H2 F2 s2 st2.sf, ?_⟩
      exact q2 D (.lst xs) F2 H2 (st2.restored st1 s2) gD ⟨xs, rfl, ra⟩ (Same.refl _)
theorem fn_lc2 {fi fi1 : Nv → R (List D)} {b b1 : Bd} {tf tf1 : Nv → R Bool} {f : Nv → R D} {vs vs1 : List Nat} (hv : ∀ i ∈ vs1, i ∈ vs)
    (h : PE X e (tLc2 (tI g W fi) (tGv g vs b) (tG g W0 relB tf) (tI g W0 fi1) (tGv g vs1 b1) (tG g W0 relB tf1) (tG g W0 (relD g) f) vs vs1)) : FN X g W e (fLc2 fi b tf fi1 b1 tf1 f vs vs1) := peImp h fun _ _ _ q => le_lc2 hv q
theorem fs_setLc2 {i : Nat} {fi fi1 : Nv → R (List D)} {b b1 : Bd} {tf tf1 : Nv → R Bool} {f : Nv → R D} {vs vs1 : List Nat} (hv : ∀ i ∈ vs1, i ∈ vs)
    (h : PS X st (tAsg (tLc2 (tI g W fi) (tGv g vs b) (tG g W0 relB tf) (tI g W0 fi1) (tGv g vs1 b1) (tG g W0 relB tf1) (tG g W0 (relD g) f) vs vs1) (gName i))) : FS X g W st (fSetN i (fLc2 fi b tf fi1 b1 tf1 f vs vs1)) :=
  fs_setN (psImp h fun D σ H q => le_lc2 hv q)

/-! ## {} ; three names at once -/
def fEmp : Nv → R D := fun E => .val .emp E
theorem fe_emp (h : PE X e tDNewK) : FE X g W e fEmp := peImp h fun σ H Q ⟨ρ, G, E, F, st, q⟩ => fun p hp => q (.ref p) _ _ (st.grow hp _) (Same.new (st.fF hp)) ⟨p, rfl, upd_same⟩
def fPar3 (i j l : Nat) (f h k : Nv → R D) : Nv → R Fl := fun E => (f E).bind fun d E1 => (h E1).bind fun e E2 => (k E2).bind fun z E3 => .val .nx (((E3.set i (.fz d)).set j (.fz e)).set l (.fz z))
theorem fs_par3 {i j l : Nat} {f h k : Nv → R D} (hp : PS X st (tPar3 i j l (tCons (tG g W (relD g) f) (tCons (tG g W (relD g) h) (tCons (tG g W (relD g) k) tNil))))) : FS X g W st (fPar3 i j l f h k) := psImp hp fun D σ H ⟨ρ, G, E, F, st, q⟩ =>
  bindS st q fun d E1 v F1 H1 st1 s1 r1 q1 => bindS st1 q1 fun e E2 u F2 H2 st2 s2 r2 q2 => bindS st2 q2 fun z E3 w F3 H3 st3 s3 r3 q3 =>
    ⟨v, u, w, rfl, q3 _ F3 H3 (((st3.store (r1.mono (s2.trans s3))).store (r2.mono s3)).store r3) (Same.refl _)⟩
def fPar3N (i j l : Nat) (f h k : Nv → R D) : Nv → R Fl := fun E => (f E).bind fun d E1 => (h E1).bind fun e E2 => (k E2).bind fun z E3 => .val .nx (((E3.set i (.own d)).set j (.fz e)).set l (.fz z))
theorem fs_par3N {i j l : Nat} {f h k : Nv → R D} (hp : PS X st (tPar3 i j l (tCons (tN g W f) (tCons (tG g W (relD g) h) (tCons (tG g W (relD g) k) tNil))))) : FS X g W st (fPar3N i j l f h k) := psImp hp fun D σ H ⟨ρ, G, E, F, st, q⟩ =>
  bindNS st q fun d E1 p o F1 H1 st1 gn ow s1 q1 => by
    refine ⟨ρ, _, E1, F1, st1, ?_⟩
    revert q1
    cases h E1 with
    | exc c fs E' => exact fun q1 dx F' H' st' s x => q1 dx σ F' H' (st'.untemp gn) s x
    | bad => exact fun q1 => q1
    | val e E2 =>
      intro q1 u F2 H2 st2 s2 r2
      refine ⟨ρ, _, E2, F2, st2, ?_⟩
      have q1 : postS g W ρ G F1 D ((k E2).bind fun z E3 => .val .nx (((E3.set i (.own d)).set j (.fz e)).set l (.fz z))) := q1
      revert q1
      cases k E2 with
      | exc c fs E' => exact fun q1 dx F' H' st' s x => q1 dx σ F' H' (st'.untemp gn) (s2.trans s) x
      | bad => exact fun q1 => q1
      | val z E3 => exact fun q1 w F3 H3 st3 s3 r3 => ⟨.ref p, u, w, rfl, q1 _ F3 H3 (((st3.take gn (ow.mono (s2.trans s3))).store (r2.mono s3)).store r3) (s2.trans s3)⟩
/-! ## tuple(range(n)) -/
def fTupR (f : Nv → R D) : Nv → R D := fun E => (f E).bind fun d E1 => match d with
  | .int n => if 0 ≤ n ∧ n ≤ 1000000 then .val (.tup (rangeD 0 n.toNat)) E1 else .bad
  | _ => .bad
theorem repl_rg {F : Hp} (n : Nat) : RepL g F (rangeD 0 n) ((List.range n).map fun i => V.int (0 + (i : Nat))) := by
  have := RepL.ints (g := g) (F := F) ((List.range n).map fun i : Nat => (0 + (i : Int)))
  rw [List.map_map, List.map_map] at this
  exact this
theorem fe_tupR {f : Nv → R D} (h : PE X e (tTupRg (tRg1 (tG g W (relD g) f)))) : FE X g W e (fTupR f) := peImp h fun σ H Q ⟨ρ, G, E, F, st, q⟩ =>
  bindE st q fun d E1 v F1 H1 st1 s1 r1 q1 => by
    cases d with
    | int n =>
      obtain rfl : v = .int n := r1
      have q1 : post g W (relD g) ρ G F1 σ Q (if 0 ≤ n ∧ n ≤ 1000000 then .val (.tup (rangeD 0 n.toNat)) E1 else .bad) := q1
      by_cases hn : 0 ≤ n ∧ n ≤ 1000000
      · rw [if_pos hn] at q1
        refine ⟨n, rfl, .of_le (by omega) (by omega) (by omega) hn.1, fun p hp => ?_⟩
        refine q1 (.ref p) _ _ (st1.grow hp _) (Same.new (st1.fF hp)) ⟨p, _, rfl, .inl (.inl upd_same), ?_⟩
        have : (n - 0).toNat = n.toNat := by omega
        unfold rgV
        rw [this]
        exact repl_rg _
      · rw [if_neg hn] at q1; exact q1.elim
    | _ => exact q1.elim
/-! ## -a -/
def fNeg (f : Nv → R D) : Nv → R D := fun E => (f E).bind fun d E1 => match d with
  | .int n => .val (.int (-n)) E1
  | _ => .bad
theorem fe_neg {f : Nv → R D} (h : PE X e (tUn (rU fun i => .int (-i)) (tG g W (relD g) f))) : FE X g W e (fNeg f) := peImp h fun σ H Q ⟨ρ, G, E, F, st, q⟩ =>
  bindE st q fun d E1 v F1 H1 st1 s1 r1 q1 => by
    cases d with
    | int n =>
      obtain rfl : v = .int n := r1
      exact ⟨n, rfl, q1 _ F1 H1 st1 (Same.refl _) rfl⟩
    | _ => exact q1.elim
end
/-! ## facts of classes -/
theorem kit_sub {K : PySem.W.Frag} {x y : Addr} {b : Bool} (ci : PySem.W.isClsIn K x = true) (cy : PySem.W.typeIn K (.ref x) = some (.type "type")) (sx : PySem.W.subIn K (.ref x) (.ref x) = some true) (s : PySem.W.subIn K (.ref y) (.ref x) = some b) :
    PySem.W.kitOne K (.ref y) (.ref x) = some b := by
  have e2 : ((PySem.W.clsIn K x).isSome && PySem.W.typeIn K (.ref x) == some (.type "type")) = true := by
    have ci' : (PySem.W.clsIn K x).isSome = true := ci
    rw [ci', cy] <;> rfl
  unfold PySem.W.kitOne
  by_cases h : (Value.ref y == Value.ref x) = true
  · rw [if_pos h]
    have : y = x := Value.ref.inj (beq_iff_eq.mp h)
    subst this
    rw [sx] at s
    exact s
  · rw [if_neg h]
    unfold PySem.W.kitCls
    simp only [e2, if_true]
    exact s
theorem kit_subT {K : PySem.W.Frag} {y : Addr} {T : String} {b : Bool} (m : PySem.W.kitMeta T = true) (s : PySem.W.subIn K (.ref y) (.type T) = some b) : PySem.W.kitOne K (.ref y) (.type T) = some b := by
  unfold PySem.W.kitOne
  rw [if_neg (by intro h; cases (beq_iff_eq.mp h))]
  unfold PySem.W.kitCls
  simp only [m, if_true]
  exact s
end FL

namespace FL
open PySem PySem.Spec PyProof.Rows L2

/-! ## a run that may end in an exception: QS where it ends, QX where it raises -/
abbrev QXT := Nat → Option (Str × D) → Nv → Prop
def runS {α : Type} (Q : α → Nv → Prop) (X : QXT) (_ : Tg (Q, X)) (r : R α) : Prop := match r with
  | .val a E => Q a E
  | .exc c fs E => X c fs E
  | .bad => False
def runX {α : Type} (X : QXT) (_ : Tg X) (r : R α) : Prop := match r with
  | .exc c fs E => X c fs E
  | _ => False
def seqS (t : Nv → R Fl) (Q : Fl → Nv → Prop) (X : QXT) (_ : Tg (t, Q, X)) (fl : Fl) (E : Nv) : Prop := match fl with
  | .nx => runS Q X () (t E)
  | fl => Q fl E
def ifS {α : Type} (a b : Nv → R α) (Q : α → Nv → Prop) (X : QXT) (_ : Tg (a, b, Q, X)) (c : Bool) (E : Nv) : Prop := if c = true then runS Q X () (a E) else runS Q X () (b E)
def calX (fn : Fn) (ars : List Ar) (X : QXT) (_ : Tg (fn, ars, X)) (E : Nv) (as : Option (List Sl)) : Prop := match as with
  | some as => once ars = true ∧ ∃ c fs bs, fn as = .exc c fs bs ∧ shape as bs = true ∧ X c fs (unlend ars bs E)
  | none => False
def excK (tst : Nat → Bool) (i : Nat) (h : Nat → Option (Str × D) → Nv → R Fl) (Q : Fl → Nv → Prop) (X : QXT) (_ : Tg (tst, h, Q, X)) : QXT := fun c fs E => if tst c = true then i < E.length ∧ runS Q X () (h c fs (E.set i .no)) else X c fs E
def bakX (as : List Sl) (P : Nat → Option (Str × D) → List Sl → Prop) (_ : Tg (as, P)) : QXT := fun c fs E => ∃ x, backs as E = some x ∧ P c fs x
def noX : QXT := fun _ _ _ => False
section
variable {α : Type} {E : Nv} {Q : α → Nv → Prop} {QD : D → Nv → Prop} {QS : Fl → Nv → Prop} {X : QXT} {f h k : Nv → R D} {fl : Nv → R (List Ar)} {t : Nv → R Bool} {s s2 : Nv → R Fl} {a b : Nv → R α} {i j l : Nat} {d : D} {fn : Fn}
theorem s_run {r : R α} {g : Tg (Q, X)} (h : run Q () r) : runS Q X g r := by
  cases r with
  | val a E => exact h
  | _ => exact h.elim
theorem s_exc {r : R α} {g : Tg (Q, X)} (h : runX X () r) : runS Q X g r := by
  cases r with
  | exc a E => exact h
  | _ => exact h.elim
theorem s_seq {g : Tg (QS, X)} : runS QS X g (fSeq s s2 E) = runS (seqS s2 QS X ()) X () (s E) := by
  unfold fSeq; cases s E with
  | val fl E1 => cases fl <;> rfl
  | exc _ _ _ => rfl
  | bad => rfl
theorem seqS_nx {g : Tg (s, QS, X)} : seqS s QS X g .nx E = runS QS X () (s E) := rfl
theorem seqS_rt {g : Tg (s, QS, X)} : seqS s QS X g (.rt d) E = QS (.rt d) E := rfl
theorem seqS_rn {g : Tg (s, QS, X)} : seqS s QS X g (.rn d) E = QS (.rn d) E := rfl
theorem seqS_bk {g : Tg (s, QS, X)} : seqS s QS X g .bk E = QS .bk E := rfl
theorem seqS_ct {g : Tg (s, QS, X)} : seqS s QS X g .ct E = QS .ct E := rfl
theorem s_val {x : α} {g : Tg (Q, X)} : runS Q X g (.val x E) = Q x E := rfl
theorem s_nx {g : Tg (QS, X)} : runS QS X g (fNx E) = QS .nx E := rfl
theorem s_if {g : Tg (Q, X)} (h : run (ifS a b Q X ()) () (t E)) : runS Q X g (fIf t a b E) := by
  unfold fIf
  revert h
  cases t E with
  | val c E1 =>
    cases c with
    | true => exact fun h => h
    | false => exact fun h => h
  | _ => exact fun h => h.elim
theorem ifS_t {g : Tg (a, b, Q, X)} : ifS a b Q X g true E = runS Q X () (a E) := rfl
theorem ifS_f {g : Tg (a, b, Q, X)} : ifS a b Q X g false E = runS Q X () (b E) := rfl
theorem ifS_if {g : Tg (a, b, Q, X)} {c : Bool} (h1 : c = true → runS Q X () (a E)) (h2 : c = false → runS Q X () (b E)) : ifS a b Q X g c E := by
  cases c with
  | true => exact h1 rfl
  | false => exact h2 rfl
theorem s_raise {c : Nat} {n : Str} {g : Tg (QS, X)} (q : run (fun d E1 => X c (some (n, d)) E1) () (f E)) : runS QS X g (fRaise1 c n f E) := by
  unfold fRaise1
  revert q
  cases f E with
  | val d E1 => exact fun q => q
  | _ => exact fun q => q.elim
theorem xx_set {g : Tg X} : runX X g (fSet i f E) = runX X () (f E) := by unfold fSet; cases f E <;> rfl
theorem xx_setN {g : Tg X} : runX X g (fSetN i f E) = runX X () (f E) := by unfold fSetN; cases f E <;> rfl
theorem xx_ret {g : Tg X} : runX X g (fRet f E) = runX X () (f E) := by unfold fRet; cases f E <;> rfl
theorem xx_drop {g : Tg X} : runX X g (fDrop f E) = runX X () (f E) := by unfold fDrop; cases f E <;> rfl
theorem xx_call {g : Tg X} (q : run (fun as E1 => calX fn as X () E1 (lend E1 0 as)) () (fl E)) : runX X g (fCall fn fl E) := by
  unfold fCall
  revert q
  cases fl E with
  | val as E1 =>
    intro q
    have q : calX fn as X () E1 (lend E1 0 as) := q
    show runX X () (resC fn as E1)
    unfold resC
    revert q
    cases lend E1 0 as with
    | none => exact fun q => q.elim
    | some ls =>
      rintro ⟨ho, c, fs, bs, e, sh, q⟩
      simp only [ho, e, sh, if_true]
      exact q
  | _ => exact fun q => q.elim
theorem xx_callN {g : Tg X} (q : run (fun as E1 => calX fn as X () E1 (lend E1 0 as)) () (fl E)) : runX X g (fCallN fn fl E) := by
  unfold fCallN
  revert q
  cases fl E with
  | val as E1 =>
    intro q
    have q : calX fn as X () E1 (lend E1 0 as) := q
    show runX X () (resCN fn as E1)
    unfold resCN
    revert q
    cases lend E1 0 as with
    | none => exact fun q => q.elim
    | some ls =>
      rintro ⟨ho, c, fs, bs, e, sh, q⟩
      simp only [ho, e, sh, if_true]
      exact q
  | _ => exact fun q => q.elim
theorem xx_make {c : Nat} {g : Tg X} (q : run (fun as E1 => calX fn (.pk E1.length :: as) (fun c fs E2 => X c fs (E2.take E1.length)) () (E1 ++ [.own (.ins c [] [])]) (lend (E1 ++ [.own (.ins c [] [])]) 0 (.pk E1.length :: as))) () (fl E)) : runX X g (fMake c fn fl E) := by
  unfold fMake
  revert q
  cases fl E with
  | val as E1 =>
    intro q
    have q : calX fn (.pk E1.length :: as) (fun c fs E2 => X c fs (E2.take E1.length)) () (E1 ++ [.own (.ins c [] [])]) (lend (E1 ++ [.own (.ins c [] [])]) 0 (.pk E1.length :: as)) := q
    show runX X () (resMk c fn as E1)
    unfold resMk resC
    revert q
    cases lend (E1 ++ [.own (.ins c [] [])]) 0 (.pk E1.length :: as) with
    | none => exact fun q => q.elim
    | some ls =>
      rintro ⟨ho, c, fs, bs, e, sh, q⟩
      simp only [ho, e, sh, if_true]
      exact q
  | _ => exact fun q => q.elim
theorem calX_by {as : List Sl} {ars : List Ar} {c : Nat} {fs : Option (Str × D)} {bs : List Sl} {g : Tg (fn, ars, X)} (e : fn as = .exc c fs bs) (ho : once ars = true) (sh : shape as bs = true) (q : X c fs (unlend ars bs E)) : calX fn ars X g E (some as) := ⟨ho, c, fs, bs, e, sh, q⟩
def exK (as : List Sl) (ars : List Ar) (X : QXT) (E : Nv) (_ : Tg (as, ars, X, E)) (r : FR) : Prop := match r with
  | .exc c fs bs => shape as bs = true ∧ X c fs (unlend ars bs E)
  | _ => False
theorem calX_s {as : List Sl} {ars : List Ar} {g : Tg (fn, ars, X)} : calX fn ars X g E (some as) = (once ars = true ∧ exK as ars X E () (fn as)) := by
  show (once ars = true ∧ ∃ c fs bs, fn as = .exc c fs bs ∧ shape as bs = true ∧ X c fs (unlend ars bs E)) = _
  refine propext ⟨fun ⟨ho, c, fs, bs, e, sh, q⟩ => ⟨ho, by rw [e]; exact ⟨sh, q⟩⟩, fun ⟨ho, q⟩ => ⟨ho, ?_⟩⟩
  revert q
  cases fn as with
  | exc c fs bs => exact fun q => ⟨c, fs, bs, rfl, q⟩
  | _ => exact fun q => q.elim
theorem exK_exc {as : List Sl} {ars : List Ar} {c : Nat} {fs : Option (Str × D)} {bs : List Sl} {g : Tg (as, ars, X, E)} : exK as ars X E g (.exc c fs bs) = (shape as bs = true ∧ X c fs (unlend ars bs E)) := rfl
/-! try -/
theorem s_try {tst : Nat → Bool} {hd : Nat → Option (Str × D) → Nv → R Fl} {g : Tg (QS, X)} : runS QS X g (fTry1 i tst s hd E) = runS QS (excK tst i hd QS X ()) () (s E) := by
  unfold fTry1
  cases s E with
  | val fl E1 => rfl
  | bad => rfl
  | exc c fs E1 =>
    show runS QS X () (if tst c = true then (if i < E1.length then hd c fs (E1.set i .no) else .bad) else .exc c fs E1) = excK tst i hd QS X () c fs E1
    unfold excK
    by_cases ht : tst c = true
    · simp only [ht, if_true]
      by_cases hl : i < E1.length
      · simp [hl]
      · simp [hl, runS]
    · simp only [ht, if_false]; rfl
theorem x_try {tst : Nat → Bool} {hd : Nat → Option (Str × D) → Nv → R Fl} {g : Tg QS} : run QS g (fTry1 i tst s hd E) = runS QS (excK tst i hd QS noX ()) () (s E) := by
  rw [← s_try (g := ())]
  cases fTry1 i tst s hd E <;> rfl
theorem excK_t {tst : Nat → Bool} {hd : Nat → Option (Str × D) → Nv → R Fl} {g : Tg (tst, hd, QS, X)} {c : Nat} {fs : Option (Str × D)} : excK tst i hd QS X g c fs E = if tst c = true then i < E.length ∧ runS QS X () (hd c fs (E.set i .no)) else X c fs E := rfl
theorem s_hRet {v : Xv} {c : Nat} {fs : Option (Str × D)} {g : Tg (QS, X)} : runS QS X g (hRet v c fs E) = optK (fun d => QS (.rt d) E) () (v c fs) := by
  unfold hRet optK
  cases v c fs with
  | none => simp [runS]
  | some d => simp [runS]
theorem s_hSet {v : Xv} {c : Nat} {fs : Option (Str × D)} {g : Tg (QS, X)} : runS QS X g (hSet i v c fs E) = optK (fun d => QS .nx (E.set i (.fz d))) () (v c fs) := by
  unfold hSet optK
  cases v c fs with
  | none => simp [runS]
  | some d => simp [runS]
theorem optK_s {γ : Type} {Q : γ → Prop} {g : Tg Q} {x : γ} : optK Q g (some x) = Q x := by unfold optK; exact ex_some
/-! the whole def -/
theorem fn_exc {N : Nat} {as : List Sl} {c : Nat} {fs : Option (Str × D)} {y : List Sl} (h : runS (fun _ _ => False) (bakX as (fun c' fs' bs => c' = c ∧ fs' = fs ∧ bs = y) ()) () (s (as ++ List.replicate (N - as.length) .no))) : runF N s as = .exc c fs y := by
  unfold runF
  revert h
  cases s (as ++ List.replicate (N - as.length) .no) with
  | val _ _ => exact fun h => h.elim
  | bad => exact fun h => h.elim
  | exc c' fs' E' =>
    rintro ⟨x, e, h1, h2, h3⟩
    subst h1; subst h2; subst h3
    simp only [e]
theorem bakX_s {as : List Sl} {P : Nat → Option (Str × D) → List Sl → Prop} {g : Tg (as, P)} {c : Nat} {fs : Option (Str × D)} : bakX as P g c fs E = optK (fun x => P c fs x) () (backs as E) := rfl
/-! ## the further forms -/
theorem x_fEmp {g : Tg QD} : run QD g (fEmp E) = QD .emp E := rfl
theorem x_fPar3 {g : Tg QS} : run QS g (fPar3 i j l f h k E) = run (fun d E1 => run (fun e E2 => run (fun z E3 => QS .nx (((E3.set i (.fz d)).set j (.fz e)).set l (.fz z))) () (k E2)) () (h E1)) () (f E) := by
  unfold run fPar3; simp only [wp_bind]; rfl
theorem x_fPar3N {g : Tg QS} : run QS g (fPar3N i j l f h k E) = run (fun d E1 => run (fun e E2 => run (fun z E3 => QS .nx (((E3.set i (.own d)).set j (.fz e)).set l (.fz z))) () (k E2)) () (h E1)) () (f E) := by
  unfold run fPar3N; simp only [wp_bind]; rfl
def rTupR (d : D) : Option D := match d with
  | .int n => if 0 ≤ n ∧ n ≤ 1000000 then some (.tup (rangeD 0 n.toNat)) else none
  | _ => none
theorem rTupR_s {n : Int} : rTupR (.int n) = if 0 ≤ n ∧ n ≤ 1000000 then some (.tup (rangeD 0 n.toNat)) else none := rfl
theorem x_fTupR {g : Tg QD} : run QD g (fTupR f E) = run (fun d E1 => run QD () (R.some (rTupR d) E1)) () (f E) := by
  unfold run fTupR; rw [wp_bind]; congr; funext d E1; unfold rTupR
  cases d <;> try rfl
  rename_i n
  by_cases hn : 0 ≤ n ∧ n ≤ 1000000 <;> simp [hn, R.some]
def rNeg (d : D) : Option D := match d with
  | .int n => some (.int (-n))
  | _ => none
theorem rNeg_s {n : Int} : rNeg (.int n) = some (.int (-n)) := rfl
theorem x_fNeg {g : Tg QD} : run QD g (fNeg f E) = run (fun d E1 => run QD () (R.some (rNeg d) E1)) () (f E) := by
  unfold run fNeg; rw [wp_bind]; congr; funext d E1; unfold rNeg
  cases d <;> rfl
theorem x_ins {ds : List D} {n : Int} {d : D} : mInsert (.lst ds) [.int n, d] = if ds.length < sizeLine ∧ 0 ≤ n ∧ n ≤ 1000000 then some (.non, .lst (ds.take n.toNat ++ [d] ++ ds.drop n.toNat)) else none := rfl
theorem x_ext {ds es : List D} : mExtend (.lst ds) [.lst es] = if ds.length + es.length ≤ sizeLine then some (.non, .lst (ds ++ es)) else none := rfl
theorem x_popAt {ds : List D} {n : Int} {d : D} (h0 : 0 ≤ n) (h1 : n ≤ 1000000) (e : ds[n.toNat]? = some d) : mPopAt (.lst ds) [.int n] = some (d, .lst (ds.eraseIdx n.toNat)) := by
  show (if 0 ≤ n ∧ n ≤ 1000000 then _ else _) = _
  rw [if_pos ⟨h0, h1⟩, e]
/-! two fors -/
def lc2K (b : Bd) (t : Nv → R Bool) (fi1 : Nv → R (List D)) (b1 : Bd) (t1 : Nv → R Bool) (f : Nv → R D) (vs vs1 : List Nat) (Q : D → Nv → Prop) (_ : Tg (b, t, fi1, b1, t1, f, Q)) (ds : List D) (E : Nv) : Prop :=
  wp (lc2L b t fi1 b1 t1 f vs vs1 ds [] (wipeE E vs)) fun xs E2 => Q (.lst xs) (restoreE E E2 vs)
def lcaK (b1 : Bd) (t1 : Nv → R Bool) (f : Nv → R D) (vs1 : List Nat) (acc : List D) (Q : List D → Nv → Prop) (_ : Tg (b1, t1, f, Q)) (ds : List D) (E : Nv) : Prop := wp (lcL b1 t1 f vs1 ds acc (wipeE E vs1)) Q
def yesK (Q : Nv → Prop) (_ : Tg Q) (c : Bool) (E : Nv) : Prop := c = true ∧ Q E
theorem yesK_t {Q : Nv → Prop} {g : Tg Q} : yesK Q g true E = Q E := by unfold yesK; simp
theorem x_fLc2 {fi fi1 : Nv → R (List D)} {b b1 : Bd} {t1 : Nv → R Bool} {vs vs1 : List Nat} {g : Tg QD} : run QD g (fLc2 fi b t fi1 b1 t1 f vs vs1 E) = run (lc2K b t fi1 b1 t1 f vs vs1 QD ()) () (fi E) := by
  unfold run fLc2 lc2K; rw [wp_bind]; congr; funext ds E1; rw [wp_bind]; rfl
theorem lc2_run {β : Type} {kf : β → D} {b b1 : Bd} {fi1 : Nv → R (List D)} {t1 : Nv → R Bool} {vs vs1 : List Nat} (P : List β → List D → Nv → Prop) : ∀ (xs : List β) (acc : List D) (E0 : Nv), P xs acc E0 →
    (∀ x r acc E, P (x :: r) acc E → someK (fun E1 => run (yesK (fun E2 => run (fun ds1 E3 => lcaK b1 t1 f vs1 acc (fun acc' E4 => P r acc' (wipeE E4 vs)) () ds1 E3) () (fi1 E2)) ()) () (t E1)) () (b (kf x) E)) →
    (∀ acc E2, P [] acc E2 → QD (.lst acc) (restoreE E E2 vs)) → wp (lc2L b t fi1 b1 t1 f vs vs1 (xs.map kf) acc E0) fun ys E2 => QD (.lst ys) (restoreE E E2 vs)
  | [], acc, E0, p, _, fin => fin acc E0 p
  | x :: xs, acc, E0, p, turn, fin => by
    obtain ⟨E1, e1, w⟩ := turn x xs acc E0 p
    rw [List.map_cons, lc2L]
    simp only [e1]
    rw [wp_bind, wp_nox]
    refine wp_imp w fun c E2 ⟨hc, q⟩ => ?_
    subst hc
    rw [if_pos rfl, wp_bind, wp_nox]
    have q : wp (fi1 E2) _ := q
    refine wp_imp q fun ds1 E3 q2 => ?_
    rw [wp_bind]
    have q2 : wp (lcL b1 t1 f vs1 ds1 acc (wipeE E3 vs1)) _ := q2
    refine wp_imp q2 fun acc' E4 p' => lc2_run P xs acc' _ p' turn fin
theorem lc2_maps {β : Type} {kf : β → D} {xs : List β} {b b1 : Bd} {fi1 : Nv → R (List D)} {t1 : Nv → R Bool} {vs vs1 : List Nat} {g : Tg (b, t, fi1, b1, t1, f, QD)} (P : List β → List D → Nv → Prop) (h0 : P xs [] (wipeE E vs))
    (turn : ∀ x r acc E, P (x :: r) acc E → someK (fun E1 => run (yesK (fun E2 => run (fun ds1 E3 => lcaK b1 t1 f vs1 acc (fun acc' E4 => P r acc' (wipeE E4 vs)) () ds1 E3) () (fi1 E2)) ()) () (t E1)) () (b (kf x) E))
    (fin : ∀ acc E2, P [] acc E2 → QD (.lst acc) (restoreE E E2 vs)) : lc2K b t fi1 b1 t1 f vs vs1 QD g (xs.map kf) E := lc2_run P xs [] _ h0 turn fin
theorem lca_fun {β : Type} {kf hf : β → D} {b1 : Bd} {vs1 : List Nat} {Q : List D → Nv → Prop} : ∀ {xs : List β} {acc : List D} {g : Tg (b1, tYesF, f, Q)} (hl : acc.length + xs.length ≤ sizeLine)
    (turn : ∀ x, x ∈ xs → someK (fun E1 => run (fun y E3 => y = hf x ∧ wipeE E3 vs1 = wipeE E vs1) () (f E1)) () (b1 (kf x) (wipeE E vs1)))
    (fin : Q (acc ++ xs.map hf) (wipeE E vs1)), lcaK b1 tYesF f vs1 acc Q g (xs.map kf) E
  | [], acc, g, hl, turn, fin => by
    have fin : Q (acc ++ []) _ := fin
    rw [List.append_nil] at fin
    exact fin
  | x :: xs, acc, g, hl, turn, fin => by
    obtain ⟨E1, e1, w⟩ := turn x (List.mem_cons_self ..)
    rw [List.length_cons] at hl
    unfold lcaK
    rw [List.map_cons, lcL]
    simp only [e1]
    have ey : ∀ k : Bool → Nv → R (List D), ((tYesF E1).nox.bind k) = k true E1 := fun _ => rfl
    rw [ey, if_pos rfl, wp_bind, wp_nox]
    have w : wp (f E1) _ := w
    refine wp_imp w fun y E3 ⟨hy, he⟩ => ?_
    subst hy
    rw [if_pos (by omega), he]
    refine lca_fun (xs := xs) (acc := acc ++ [hf x]) (g := ()) (by rw [List.length_append, List.length_singleton]; omega) (fun z hz => turn z (List.mem_cons_of_mem _ hz)) ?_
    rw [List.map_cons] at fin
    rw [List.append_assoc]
    exact fin
end
/-! own == by kind -/
section
variable {E : Nv} {QD : D → Nv → Prop} {c : Nat} {fn : Fn} {a b : Ar} {g : Tg (fn, QD)} {n1 : List Str} {d1 : List D}
abbrev eqR (fn : Fn) (a b : Ar) (QD : D → Nv → Prop) (E : Nv) : Prop := calK fn [a, b] (fun d E2 => run (fun k E3 => QD (.bl k) E3) () (R.some (asB d) E2)) () E (lend E 0 [a, b])
theorem eqK_ins {n2 : List Str} {d2 : List D} : eqK c fn a b QD g E (some (.ins c n1 d1)) (some (.ins c n2 d2)) = eqR fn a b QD E := eqK_s (by simp [eqKind])
theorem eqK_tup {ds : List D} : eqK c fn a b QD g E (some (.ins c n1 d1)) (some (.tup ds)) = eqR fn a b QD E := eqK_s rfl
theorem eqK_lst {ds : List D} : eqK c fn a b QD g E (some (.ins c n1 d1)) (some (.lst ds)) = eqR fn a b QD E := eqK_s rfl
theorem eqK_non : eqK c fn a b QD g E (some (.ins c n1 d1)) (some .non) = eqR fn a b QD E := eqK_s rfl
theorem eqK_int {i : Int} : eqK c fn a b QD g E (some (.ins c n1 d1)) (some (.int i)) = eqR fn a b QD E := eqK_s rfl
theorem eqK_str {i : Str} : eqK c fn a b QD g E (some (.ins c n1 d1)) (some (.str i)) = eqR fn a b QD E := eqK_s rfl
theorem eqK_bl {i : Bool} : eqK c fn a b QD g E (some (.ins c n1 d1)) (some (.bl i)) = eqR fn a b QD E := eqK_s rfl
end
end FL

namespace Law
open PySem PySem.Spec PyProof.Rows L2 FL
def topS (i : Nat) : Stmt := PySem.Challenge.pw_turnedtalk_k08_whole_schedules_judged.main.body.getD i (.Pass ⟨0, 0, 0, 0⟩)
def tst_BadSchedule : Nat → Bool := fun c => match c with | 1 => true | 2 => false | 3 => false | 4 => false | 5 => false | _ => false
def tst_TalkError : Nat → Bool := fun c => match c with | 1 => true | 2 => true | 3 => true | 4 => true | 5 => true | _ => true
def tst_TooMany : Nat → Bool := fun c => match c with | 1 => false | 2 => true | 3 => false | 4 => false | 5 => false | _ => false
def tst_ValueError : Nat → Bool := fun c => match c with | 1 => true | 2 => true | 3 => true | 4 => true | 5 => true | _ => true
abbrev s_is_integer : Stmt := topS 1
abbrev N_is_integer : List Str := ["thing"]
noncomputable def body_is_integer : Nv → R Fl := fRet (fAnd (fOpL (oIsi 1) (fAs [fPk 0, fV (fC (.ty "int"))])) (fNot (fOpL (oIsi 1) (fAs [fPk 0, fV (fC (.ty "bool"))]))))
noncomputable def sem_is_integer : Fn := runF 1 body_is_integer
abbrev s_is_sized : Stmt := topS 3
abbrev N_is_sized : List Str := ["thing", "low", "high"]
noncomputable def body_is_sized : Nv → R Fl := fRet (fAnd (fOpL (oIsi 1) (fAs [fPk 0, fV (fC (.ty "tuple"))])) (fChain oLe oLe (fPk 1) (fV (fOpL oLen (fAs [fPk 0]))) (fPk 2)))
noncomputable def sem_is_sized : Fn := runF 3 body_is_sized
abbrev s_BadSchedule___init__ : Stmt := inClass (topS 7) 0
abbrev N_BadSchedule___init__ : List Str := ["self", "part"]
abbrev s_TooMany___init__ : Stmt := inClass (topS 8) 0
abbrev N_TooMany___init__ : List Str := ["self", "most"]
abbrev s_Schedule___eq__ : Stmt := inClass (topS 19) 1
abbrev N_Schedule___eq__ : List Str := ["self", "thing"]
noncomputable def body_Schedule___eq__ : Nv → R Fl := fRet (fAnd (fOpL (oIsi 1) (fAs [fPk 1, fV (fC (.cls 0))])) (fAnd (fOp2 oEq (fV (fFld "many" (fPk 0))) (fV (fFld "many" (fPk 1)))) (fOp2 oEq (fV (fFld "letters" (fPk 0))) (fV (fFld "letters" (fPk 1))))))
noncomputable def sem_Schedule___eq__ : Fn := runF 2 body_Schedule___eq__
abbrev s__law_hand : Stmt := topS 26
abbrev N__law_hand : List Str := ["script", "cells", "cell"]
noncomputable def body__law_hand : Nv → R Fl := fSeq (fSetN 1 (fLc (iAnyF (fSl (fPk 0) (pNone) (pSome (fC (.int 63))))) (bName 2) (tYesF) (fOpL oAbs (fAs [fV (fOpL oInt (fAs [fPk 2]))])) [2])) (fRetN (fOpV oLstD (fAs [fV (fVar 1), fV (fC (.int 0)), fV (fC (.int 0)), fV (fOp2 oAdd (fV (fC (.int 1))) (fV (fOpL oLen (fAs [fPk 1])))), fV (fC (.int 0))])))
noncomputable def sem__law_hand : Fn := runF 3 body__law_hand
abbrev s__law_draw : Stmt := topS 27
abbrev N__law_draw : List Str := ["hand", "many", "number", "cell", "digit"]
noncomputable def body__law_draw : Nv → R Fl := fSeq (fIf (tAndF (fTest (fOp2 oEq (fV (fOp2 oIx (fPk 0) (fV (fC (.int 2))))) (fV (fC (.int 0))))) (fTest (fOp2 oLt (fV (fOp2 oIx (fPk 0) (fV (fC (.int 1))))) (fV (fOpL oLen (fAs [fV (fOp2 oIx (fPk 0) (fV (fC (.int 0))))])))))) (fSeq (fSet 3 (fOp2 oIx (fV (fOp2 oIx (fPk 0) (fV (fC (.int 0))))) (fV (fOp2 oIx (fPk 0) (fV (fC (.int 1))))))) (fSeq (fSetIx 0 (fC (.int 1)) (fOp2 oAdd (fV (fOp2 oIx (fPk 0) (fV (fC (.int 1))))) (fV (fC (.int 1))))) (fSeq (fSetIx 0 (fC (.int 3)) (fOp2 oMod (fV (fOpL oInt (fAs [fV (fOp2 oAdd (fV (fOp2 oAdd (fV (fOp2 oMul (fV (fOp2 oIx (fPk 0) (fV (fC (.int 3))))) (fV (fC (.int 69621))))) (fPk 3))) (fV (fC (.int 11))))]))) (fV (fC (.int 2147483629))))) (fIf (fTest (fOp2 oGe (fPk 3) (fV (fOp2 oPow (fV (fC (.int 10))) (fV (fC (.int 18))))))) (fSetIx 0 (fC (.int 2)) (fVar 3)) (fNx))))) (fNx)) (fSeq (fIf (fTest (fOp2 oGt (fV (fOp2 oIx (fPk 0) (fV (fC (.int 2))))) (fV (fC (.int 0))))) (fSeq (fSet 4 (fOp2 oMod (fV (fOpL oInt (fAs [fV (fOp2 oIx (fPk 0) (fV (fC (.int 2))))]))) (fPk 1))) (fSeq (fSetIx 0 (fC (.int 2)) (fOp2 oDiv (fV (fOp2 oIx (fPk 0) (fV (fC (.int 2))))) (fPk 1))) (fRet (fVar 4)))) (fNx)) (fSeq (fSetIx 0 (fC (.int 4)) (fOp2 oAdd (fV (fOp2 oIx (fPk 0) (fV (fC (.int 4))))) (fV (fC (.int 1))))) (fSeq (fSet 2 (fOp2 oMod (fV (fOpL oInt (fAs [fV (fOp2 oMul (fV (fOpL oInt (fAs [fV (fOp2 oAdd (fV (fOp2 oIx (fPk 0) (fV (fC (.int 3))))) (fV (fOp2 oMul (fV (fC (.int 7919))) (fV (fOp2 oIx (fPk 0) (fV (fC (.int 4))))))))]))) (fV (fC (.int 48271))))]))) (fV (fC (.int 2147483647))))) (fSeq (fSet 2 (fOp2 oMod (fV (fOpL oInt (fAs [fV (fOp2 oMul (fPk 2) (fV (fOp2 oAdd (fV (fOp2 oDiv (fPk 2) (fV (fC (.int 1009))))) (fV (fC (.int 69621))))))]))) (fV (fC (.int 2147483647))))) (fSeq (fSet 2 (fOp2 oMod (fV (fOpL oInt (fAs [fV (fOp2 oMul (fPk 2) (fV (fOp2 oAdd (fV (fOp2 oDiv (fPk 2) (fV (fC (.int 2003))))) (fV (fC (.int 40692))))))]))) (fV (fC (.int 2147483399))))) (fRet (fOp2 oMod (fV (fOpL oInt (fAs [fV (fOp2 oDiv (fPk 2) (fV (fC (.int 16))))]))) (fPk 1))))))))
noncomputable def sem__law_draw : Fn := runF 5 body__law_draw
abbrev s__law_is : Stmt := topS 29
abbrev N__law_is : List Str := ["told", "due", "k"]
noncomputable def body__law_is (self : Fn) : Nv → R Fl := fSeq (fIf (fTest (fIsiT (fPk 1) (fAs [fV (fC (.ty "tuple")), fV (fC (.ty "list"))]))) (fSeq (fIf (tOrF (fTest (fOp2 oNe (fV (fOpL (oIsi 1) (fAs [fPk 0, fV (fC (.ty "tuple"))]))) (fV (fOpL (oIsi 1) (fAs [fPk 1, fV (fC (.ty "tuple"))]))))) (fTest (fOp2 oNe (fV (fOpL (oIsi 1) (fAs [fPk 0, fV (fC (.ty "list"))]))) (fV (fOpL (oIsi 1) (fAs [fPk 1, fV (fC (.ty "list"))])))))) (fRet (fC (.bl false))) (fNx)) (fRet (fAnd (fOp2 oEq (fV (fOpL oLen (fAs [fPk 0]))) (fV (fOpL oLen (fAs [fPk 1])))) (fOpL oAll (fAs [fV (fLc (iRng (fAs [fV (fOpL oLen (fAs [fPk 1]))])) (bName 2) (tYesF) (fCall self (fAs [fV (fOp2 oIx (fPk 0) (fPk 2)), fV (fOp2 oIx (fPk 1) (fPk 2))])) [2])]))))) (fNx)) (fSeq (fIf (tOrF (fTest (fOp2 oIsN (fPk 1) (fV (fC .non)))) (fTest (fOp2 oIsN (fPk 0) (fV (fC .non))))) (fRet (fAnd (fOp2 oIsN (fPk 1) (fV (fC .non))) (fOp2 oIsN (fPk 0) (fV (fC .non))))) (fNx)) (fSeq (fIf (tOrF (fTest (fOp2 oNe (fV (fOpL (oIsi 1) (fAs [fPk 0, fV (fC (.ty "bool"))]))) (fV (fOpL (oIsi 1) (fAs [fPk 1, fV (fC (.ty "bool"))]))))) (fTest (fOp2 oNe (fV (fOpL (oIsi 1) (fAs [fPk 0, fV (fC (.ty "int"))]))) (fV (fOpL (oIsi 1) (fAs [fPk 1, fV (fC (.ty "int"))])))))) (fRet (fC (.bl false))) (fNx)) (fRet (fAnd (fOp2 oEq (fV (fOpL (oIsi 1) (fAs [fPk 0, fV (fC (.ty "str"))]))) (fV (fOpL (oIsi 1) (fAs [fPk 1, fV (fC (.ty "str"))])))) (fOp2 oEq (fPk 0) (fPk 1))))))
noncomputable def sem__law_is : Nat → Fn
  | 0 => fn0
  | n + 1 => runF 3 (body__law_is (sem__law_is n))
abbrev s__law_is_number : Stmt := topS 30
abbrev N__law_is_number : List Str := ["thing", "many"]
noncomputable def body__law_is_number : Nv → R Fl := fRet (fAnd (fOpL (oIsi 1) (fAs [fPk 0, fV (fC (.ty "int"))])) (fAnd (fNot (fOpL (oIsi 1) (fAs [fPk 0, fV (fC (.ty "bool"))]))) (fChain oLe oLt (fV (fC (.int 0))) (fPk 0) (fPk 1))))
noncomputable def sem__law_is_number : Fn := runF 2 body__law_is_number
abbrev s__law_deep : Stmt := topS 31
abbrev N__law_deep : List Str := ["kind", "found", "turn"]
noncomputable def body__law_deep : Nv → R Fl := fSeq (fSet 1 (fC .non)) (fSeq (fFor (iRng (fAs [fV (fC (.int 36))])) (bName 2) (fSet 1 (fIf (fTest (fOp2 oEq (fPk 0) (fV (fC (.int 0))))) (fOpV oLstD (fAs [fV (fVar 1)])) (fOpV oTupD (fAs [fV (fVar 1)]))))) (fRet (fVar 1)))
noncomputable def sem__law_deep : Fn := runF 3 body__law_deep
abbrev s_is_between : Stmt := topS 2
abbrev N_is_between : List Str := ["thing", "low", "high"]
noncomputable def body_is_between : Nv → R Fl := fRet (fAnd (fCall sem_is_integer (fAs [fV (fVar 0)])) (fChain oLe oLe (fPk 1) (fPk 0) (fPk 2)))
noncomputable def sem_is_between : Fn := runF 3 body_is_between
abbrev s__law_some : Stmt := topS 28
abbrev N__law_some : List Str := ["hand", "things"]
noncomputable def body__law_some : Nv → R Fl := fRet (fOp2 oIx (fPk 1) (fV (fCall sem__law_draw (fAs [fPk 0, fV (fOpL oLen (fAs [fPk 1]))]))))
noncomputable def sem__law_some : Fn := runF 2 body__law_some
abbrev s__law_is_letter : Stmt := topS 33
abbrev N__law_is_letter : List Str := ["many", "one"]
noncomputable def body__law_is_letter : Nv → R Fl := fSeq (fIf (tOrF (tNotF (fTest (fOpL (oIsi 1) (fAs [fPk 1, fV (fC (.ty "tuple"))])))) (fTest (fOp2 oNe (fV (fOpL oLen (fAs [fPk 1]))) (fV (fC (.int 3)))))) (fRet (fC (.bl false))) (fNx)) (fSeq (fIf (tOrF (tNotF (fTest (fCall sem__law_is_number (fAs [fV (fOp2 oIx (fPk 1) (fV (fC (.int 0)))), fV (fVar 0)])))) (tNotF (fTest (fCall sem__law_is_number (fAs [fV (fOp2 oIx (fPk 1) (fV (fC (.int 1)))), fV (fVar 0)]))))) (fRet (fC (.bl false))) (fNx)) (fRet (fAnd (fOp2 oNe (fV (fOp2 oIx (fPk 1) (fV (fC (.int 0))))) (fV (fOp2 oIx (fPk 1) (fV (fC (.int 1)))))) (fCall sem__law_is_number (fAs [fV (fOp2 oIx (fPk 1) (fV (fC (.int 2)))), fV (fC (.int 1000))])))))
noncomputable def sem__law_is_letter : Fn := runF 2 body__law_is_letter
abbrev s_is_lot : Stmt := topS 4
abbrev N_is_lot : List Str := ["thing", "below", "one", "other"]
noncomputable def body_is_lot : Nv → R Fl := fSeq (fIf (tOrF (tNotF (fTest (fOpL (oIsi 1) (fAs [fPk 0, fV (fC (.ty "tuple"))])))) (tNotF (fTest (fOpL oAll (fAs [fV (fLc (iAnyF (fVar 0)) (bName 2) (tYesF) (fCall sem_is_between (fAs [fV (fVar 2), fV (fC (.int 0)), fV (fOp2 oSub (fPk 1) (fV (fC (.int 1))))])) [2])]))))) (fRet (fC (.bl false))) (fNx)) (fRet (fOpL oAll (fAs [fV (fLc (iZip (fAs [fV (fVar 0), fV (fSl (fPk 0) (pSome (fC (.int 1))) (pNone))])) (bTup [bName 2, bName 3]) (tYesF) (fOp2 oLt (fPk 2) (fPk 3)) [2, 3])])))
noncomputable def sem_is_lot : Fn := runF 4 body_is_lot
abbrev s_is_letter : Stmt := topS 17
abbrev N_is_letter : List Str := ["many", "thing"]
noncomputable def body_is_letter : Nv → R Fl := fSeq (fIf (tOrF (tNotF (fTest (fCall sem_is_sized (fAs [fV (fVar 1), fV (fC (.int 3)), fV (fC (.int 3))])))) (tOrF (tNotF (fTest (fCall sem_is_between (fAs [fV (fOp2 oIx (fPk 1) (fV (fC (.int 0)))), fV (fC (.int 0)), fV (fOp2 oSub (fPk 0) (fV (fC (.int 1))))])))) (tNotF (fTest (fCall sem_is_between (fAs [fV (fOp2 oIx (fPk 1) (fV (fC (.int 1)))), fV (fC (.int 0)), fV (fOp2 oSub (fPk 0) (fV (fC (.int 1))))])))))) (fRet (fC (.bl false))) (fNx)) (fRet (fAnd (fOp2 oNe (fV (fOp2 oIx (fPk 1) (fV (fC (.int 0))))) (fV (fOp2 oIx (fPk 1) (fV (fC (.int 1)))))) (fCall sem_is_between (fAs [fV (fOp2 oIx (fPk 1) (fV (fC (.int 2)))), fV (fC (.int 0)), fV (fC (.int 999))]))))
noncomputable def sem_is_letter : Fn := runF 2 body_is_letter
abbrev s_are_ties : Stmt := topS 22
abbrev N_are_ties : List Str := ["many", "thing", "tie", "house", "one", "other"]
noncomputable def body_are_ties : Nv → R Fl := fSeq (fIf (tOrF (tNotF (fTest (fOpL (oIsi 1) (fAs [fPk 1, fV (fC (.ty "tuple"))])))) (tNotF (fTest (fOpL oAll (fAs [fV (fLc (iAnyF (fVar 1)) (bName 2) (tYesF) (fCall sem_is_sized (fAs [fV (fVar 2), fV (fC (.int 2)), fV (fC (.int 2))])) [2])]))))) (fRet (fC (.bl false))) (fNx)) (fSeq (fIf (tNotF (fTest (fOpL oAll (fAs [fV (fLc2 (iAnyF (fVar 1)) (bName 2) (tYesF) (iAnyF (fVar 2)) (bName 3) (tYesF) (fCall sem_is_between (fAs [fV (fVar 3), fV (fC (.int 0)), fV (fOp2 oSub (fPk 0) (fV (fC (.int 1))))])) [2, 3] [3])])))) (fRet (fC (.bl false))) (fNx)) (fRet (fAnd (fOpL oAll (fAs [fV (fLc (iAnyF (fVar 1)) (bName 2) (tYesF) (fOp2 oLt (fV (fOp2 oIx (fPk 2) (fV (fC (.int 0))))) (fV (fOp2 oIx (fPk 2) (fV (fC (.int 1)))))) [2])])) (fOpL oAll (fAs [fV (fLc (iZip (fAs [fV (fVar 1), fV (fSl (fPk 1) (pSome (fC (.int 1))) (pNone))])) (bTup [bName 4, bName 5]) (tYesF) (fOp2 oLt (fPk 4) (fPk 5)) [4, 5])])))))
noncomputable def sem_are_ties : Fn := runF 6 body_are_ties
abbrev s__law_letters : Stmt := topS 32
abbrev N__law_letters : List Str := ["hand", "many", "most", "found", "beat", "turn", "one", "letter"]
noncomputable def body__law_letters : Nv → R Fl := fSeq (fParNE 3 4 (fOpV oLstD (fAs [])) (fCall sem__law_some (fAs [fPk 0, fV (fOpV oLstD (fAs [fV (fC (.int 0)), fV (fC (.int 0)), fV (fC (.int 5)), fV (fC (.int 990)), fV (fC (.int 999))]))]))) (fSeq (fFor (iRng (fAs [fV (fVar 2)])) (bName 5) (fSeq (fSet 4 (fOpL oMin2 (fAs [fV (fC (.int 999)), fV (fOp2 oAdd (fPk 4) (fV (fCall sem__law_some (fAs [fPk 0, fV (fOpV oLstD (fAs [fV (fC (.int 0)), fV (fC (.int 0)), fV (fC (.int 1)), fV (fC (.int 1)), fV (fC (.int 2)), fV (fCall sem__law_draw (fAs [fPk 0, fV (fC (.int 60))]))]))]))))]))) (fSeq (fSet 6 (fCall sem__law_draw (fAs [fPk 0, fV (fVar 1)]))) (fSeq (fSet 7 (fOpV oTupD (fAs [fV (fVar 6), fV (fOp2 oMod (fV (fOpL oInt (fAs [fV (fOp2 oAdd (fV (fOp2 oAdd (fPk 6) (fV (fC (.int 1))))) (fV (fCall sem__law_draw (fAs [fPk 0, fV (fOp2 oSub (fPk 1) (fV (fC (.int 1))))]))))]))) (fPk 1)), fV (fVar 4)]))) (fIf (fTest (fOp2 oNotIn (fPk 7) (fPk 3))) (fDrop (fMt 3 mAppend (fAs [fV (fVar 7)]))) (fNx)))))) (fRet (fOpL oTuple (fAs [fPk 3]))))
noncomputable def sem__law_letters : Fn := runF 8 body__law_letters
abbrev s__law_part : Stmt := topS 34
abbrev N__law_part : List Str := ["many", "letters", "at"]
noncomputable def body__law_part : Nv → R Fl := fSeq (fIf (tOrF (tNotF (fTest (fCall sem__law_is_number (fAs [fV (fVar 0), fV (fC (.int 9))])))) (fTest (fOp2 oLt (fPk 0) (fV (fC (.int 2)))))) (fRet (fC (.str "many"))) (fNx)) (fSeq (fIf (tOrF (tNotF (fTest (fOpL (oIsi 1) (fAs [fPk 1, fV (fC (.ty "tuple"))])))) (fTest (fOp2 oGt (fV (fOpL oLen (fAs [fPk 1]))) (fV (fC (.int 60)))))) (fRet (fC (.str "letters"))) (fNx)) (fSeq (fFor (iRng (fAs [fV (fOpL oLen (fAs [fPk 1]))])) (bName 2) (fSeq (fIf (tNotF (fTest (fCall sem__law_is_letter (fAs [fV (fVar 0), fV (fOp2 oIx (fPk 1) (fPk 2))])))) (fRet (fVar 2)) (fNx)) (fIf (tOrF (tAndF (fTest (fOp2 oGt (fPk 2) (fV (fC (.int 0))))) (fTest (fOp2 oLt (fV (fOp2 oIx (fV (fOp2 oIx (fPk 1) (fPk 2))) (fV (fC (.int 2))))) (fV (fOp2 oIx (fV (fOp2 oIx (fPk 1) (fV (fOp2 oSub (fPk 2) (fV (fC (.int 1))))))) (fV (fC (.int 2)))))))) (fTest (fOp2 oIn (fV (fOp2 oIx (fPk 1) (fPk 2))) (fV (fSl (fPk 1) (pNone) (pSome (fVar 2))))))) (fRet (fVar 2)) (fNx)))) (fRet (fC (.str "let")))))
noncomputable def sem__law_part : Fn := runF 3 body__law_part
abbrev s__law_spoilt : Stmt := topS 35
abbrev N__law_spoilt : List Str := ["hand", "many", "letters", "rows", "kind", "at", "one", "odd", "place", "part"]
noncomputable def body__law_spoilt : Nv → R Fl := fSeq (fPar3N 3 4 5 (fOpL oList (fAs [fPk 2])) (fCall sem__law_draw (fAs [fPk 0, fV (fC (.int 8))])) (fCall sem__law_draw (fAs [fPk 0, fV (fOpL oLen (fAs [fPk 2]))]))) (fSeq (fSet 6 (fOp2 oIx (fPk 3) (fPk 5))) (fSeq (fIf (fTest (fOp2 oEq (fPk 4) (fV (fC (.int 0))))) (fSetIx 3 (fVar 5) (fCall sem__law_some (fAs [fPk 0, fV (fOpV oLstD (fAs [fV (fC .non), fV (fC (.int 0)), fV (fC (.str "abc")), fV (fOpV oLstD (fAs [])), fV (fOpV oTupD (fAs [])), fV (fOpV oTupD (fAs [fV (fC (.int 0)), fV (fC (.int 1))])), fV (fOpV oTupD (fAs [fV (fC (.int 0)), fV (fC (.int 1)), fV (fC (.int 0)), fV (fC (.int 0))])), fV (fCall sem__law_deep (fAs [fV (fC (.int 1))])), fV (fCall sem__law_deep (fAs [fV (fC (.int 0))])), fV (fEmp)]))]))) (fIf (fTest (fOp2 oEq (fPk 4) (fV (fC (.int 1))))) (fDrop (fMt 3 mInsert (fAs [fV (fCall sem__law_draw (fAs [fPk 0, fV (fOp2 oAdd (fV (fOpL oLen (fAs [fPk 3]))) (fV (fC (.int 1))))])), fV (fVar 6)]))) (fIf (fTest (fOp2 oEq (fPk 4) (fV (fC (.int 2))))) (fSeq (fDrop (fMt 3 mPopAt (fAs [fV (fVar 5)]))) (fDrop (fMt 3 mInsert (fAs [fV (fCall sem__law_draw (fAs [fPk 0, fV (fOp2 oAdd (fV (fOpL oLen (fAs [fPk 3]))) (fV (fC (.int 1))))])), fV (fVar 6)])))) (fIf (tAndF (fTest (fOpL (oIsi 1) (fAs [fPk 6, fV (fC (.ty "tuple"))]))) (fTest (fOp2 oEq (fV (fOpL oLen (fAs [fPk 6]))) (fV (fC (.int 3)))))) (fSeq (fSet 7 (fOpV oLstD (fAs [fV (fNeg (fC (.int 1))), fV (fC (.int 1)), fV (fC (.int 0)), fV (fC (.bl true)), fV (fC (.bl false)), fV (fC .non), fV (fC (.str "0")), fV (fVar 1), fV (fOp2 oSub (fPk 1) (fV (fC (.int 1)))), fV (fC (.int 999)), fV (fC (.int 1000)), fV (fOp2 oPow (fV (fC (.int 10))) (fV (fC (.int 19)))), fV (fOpV oTupD (fAs [fV (fC (.int 0))])), fV (fOpV oLstD (fAs [fV (fC (.int 0))])), fV (fOp2 oIx (fPk 6) (fV (fC (.int 0)))), fV (fOp2 oIx (fPk 6) (fV (fC (.int 1)))), fV (fOp2 oIx (fPk 6) (fV (fC (.int 2))))]))) (fSeq (fSet 8 (fCall sem__law_draw (fAs [fPk 0, fV (fC (.int 3))]))) (fSeq (fSet 9 (fCall sem__law_some (fAs [fPk 0, fV (fVar 7)]))) (fSeq (fIf (tAndF (fTest (fOp2 oEq (fPk 4) (fV (fC (.int 3))))) (fTest (fCall sem__law_is_number (fAs [fV (fOp2 oIx (fPk 6) (fV (fC (.int 2)))), fV (fC (.int 10000))])))) (fPar 8 9 (fC (.int 2)) (fOp2 oAdd (fV (fOp2 oIx (fPk 6) (fV (fC (.int 2))))) (fV (fCall sem__law_some (fAs [fPk 0, fV (fOpV oLstD (fAs [fV (fNeg (fC (.int 1))), fV (fC (.int 1)), fV (fC (.int 30)), fV (fNeg (fC (.int 30)))]))]))))) (fNx)) (fSeq (fSetIx 3 (fVar 5) (fOp2 oAdd (fV (fOp2 oAdd (fV (fSl (fPk 6) (pNone) (pSome (fVar 8)))) (fV (fOpV oTupD (fAs [fV (fVar 9)]))))) (fV (fSl (fPk 6) (pSome (fOp2 oAdd (fPk 8) (fV (fC (.int 1))))) (pNone))))) (fIf (fTest (fOp2 oEq (fPk 4) (fV (fC (.int 4))))) (fSetIx 3 (fVar 5) (fOpL oList (fAs [fPk 6]))) (fNx))))))) (fNx))))) (fRet (fOpL oTuple (fAs [fPk 3])))))
noncomputable def sem__law_spoilt : Fn := runF 10 body__law_spoilt
abbrev s__law_full : Stmt := topS 36
abbrev N__law_full : List Str := ["hand", "many", "rows", "found", "beat", "turn", "k", "one", "other", "old"]
noncomputable def body__law_full : Nv → R Fl := fSeq (fSet 2 (fOpL oTuple (fAs [fV (fLc (iRng (fAs [fV (fOp2 oSub (fV (fOp2 oMul (fV (fC (.int 2))) (fPk 1))) (fV (fC (.int 2))))])) (bName 6) (tYesF) (fOpV oTupD (fAs [fV (fOp2 oAdd (fV (fOp2 oDiv (fPk 6) (fV (fC (.int 2))))) (fV (fOp2 oMod (fV (fOpL oInt (fAs [fPk 6]))) (fV (fC (.int 2)))))), fV (fOp2 oSub (fV (fOp2 oAdd (fV (fOp2 oDiv (fPk 6) (fV (fC (.int 2))))) (fV (fC (.int 1))))) (fV (fOp2 oMod (fV (fOpL oInt (fAs [fPk 6]))) (fV (fC (.int 2)))))), fV (fC (.int 0))])) [6])]))) (fSeq (fAsg (fOpV oTupD (fAs [fV (fOpV oTupD (fAs [])), fV (fCall sem__law_draw (fAs [fPk 0, fV (fC (.int 900))]))])) (bTup [bName 3, bName 4])) (fSeq (fFor (iRng (fAs [fV (fC (.int 31))])) (bName 5) (fSet 3 (fOp2 oAdd (fPk 3) (fV (fOpL oTuple (fAs [fV (fLc (iAnyF (fVar 2)) (bTup [bName 7, bName 8, bName 9]) (tYesF) (fOpV oTupD (fAs [fV (fVar 7), fV (fVar 8), fV (fOp2 oAdd (fPk 4) (fPk 5))])) [7, 8, 9])])))))) (fRet (fSl (fPk 3) (pNone) (pSome (fCall sem__law_some (fAs [fPk 0, fV (fOpV oLstD (fAs [fV (fC (.int 60)), fV (fC (.int 60)), fV (fC (.int 61)), fV (fC (.int 62))]))])))))))
noncomputable def sem__law_full : Fn := runF 10 body__law_full
abbrev s_first_wrong : Stmt := topS 18
abbrev N_first_wrong : List Str := ["many", "letters", "number", "letter"]
noncomputable def body_first_wrong : Nv → R Fl := fSeq (fFor (iEnumF (fAs [fV (fVar 1)])) (bTup [bName 2, bName 3]) (fSeq (fIf (tOrF (tNotF (fTest (fCall sem_is_letter (fAs [fV (fVar 0), fV (fVar 3)])))) (fTest (fOp2 oIn (fPk 3) (fV (fSl (fPk 1) (pNone) (pSome (fVar 2))))))) (fRet (fVar 2)) (fNx)) (fIf (tAndF (fTest (fOp2 oGt (fPk 2) (fV (fC (.int 0))))) (fTest (fOp2 oLt (fV (fOp2 oIx (fPk 3) (fV (fC (.int 2))))) (fV (fOp2 oIx (fV (fOp2 oIx (fPk 1) (fV (fOp2 oSub (fPk 2) (fV (fC (.int 1))))))) (fV (fC (.int 2)))))))) (fRet (fVar 2)) (fNx)))) (fRet (fC .non))
noncomputable def sem_first_wrong : Fn := runF 4 body_first_wrong
abbrev s_Schedule___init__ : Stmt := inClass (topS 19) 0
abbrev N_Schedule___init__ : List Str := ["self", "many", "letters", "wrong"]
noncomputable def body_Schedule___init__ : Nv → R Fl := fSeq (fIf (tNotF (fTest (fCall sem_is_between (fAs [fV (fVar 1), fV (fC (.int 2)), fV (fC (.int 8))])))) (fRaise1 1 "part" (fC (.str "many"))) (fNx)) (fSeq (fIf (tNotF (fTest (fCall sem_is_sized (fAs [fV (fVar 2), fV (fC (.int 0)), fV (fC (.int 60))])))) (fRaise1 1 "part" (fC (.str "letters"))) (fNx)) (fSeq (fSet 3 (fCall sem_first_wrong (fAs [fV (fVar 1), fV (fVar 2)]))) (fSeq (fIf (fTest (fOp2 oNotN (fPk 3) (fV (fC .non)))) (fRaise1 1 "part" (fVar 3)) (fNx)) (fSeq (fSetFld 0 "many" (fVar 1)) (fSetFld 0 "letters" (fVar 2))))))
noncomputable def sem_Schedule___init__ : Fn := runF 4 body_Schedule___init__
abbrev s_turns_line : Stmt := topS 20
abbrev N_turns_line : List Str := ["n", "k"]
noncomputable def body_turns_line : Nv → R Fl := fSeq (fIf (tNotF (fTest (fCall sem_is_between (fAs [fV (fVar 0), fV (fC (.int 0)), fV (fC (.int 60))])))) (fBad) (fNx)) (fRet (fMake 0 sem_Schedule___init__ (fAs [fV (fC (.int 2)), fV (fOpL oTuple (fAs [fV (fLc (iRng (fAs [fV (fVar 0)])) (bName 1) (tYesF) (fOpV oTupD (fAs [fV (fOp2 oAnd (fPk 1) (fV (fC (.int 1)))), fV (fOp2 oSub (fV (fC (.int 1))) (fV (fOp2 oAnd (fPk 1) (fV (fC (.int 1)))))), fV (fVar 1)])) [1])]))])))
noncomputable def sem_turns_line : Fn := runF 2 body_turns_line
abbrev s_both_line : Stmt := topS 21
abbrev N_both_line : List Str := ["n", "beat", "house"]
noncomputable def body_both_line : Nv → R Fl := fSeq (fIf (tNotF (fTest (fCall sem_is_between (fAs [fV (fVar 0), fV (fC (.int 0)), fV (fOp2 oDiv (fV (fC (.int 60))) (fV (fC (.int 2))))])))) (fBad) (fNx)) (fRet (fMake 0 sem_Schedule___init__ (fAs [fV (fC (.int 2)), fV (fOpL oTuple (fAs [fV (fLc2 (iRng (fAs [fV (fVar 0)])) (bName 1) (tYesF) (iRng (fAs [fV (fC (.int 2))])) (bName 2) (tYesF) (fOpV oTupD (fAs [fV (fVar 2), fV (fOp2 oSub (fV (fC (.int 1))) (fPk 2)), fV (fVar 1)])) [1, 2] [2])]))])))
noncomputable def sem_both_line : Fn := runF 3 body_both_line
abbrev s_net_schedule : Stmt := topS 23
abbrev N_net_schedule : List Str := ["many", "ties", "beats", "found", "beat", "one", "other"]
noncomputable def body_net_schedule : Nv → R Fl := fSeq (fIf (tOrF (tNotF (fTest (fCall sem_is_between (fAs [fV (fVar 0), fV (fC (.int 2)), fV (fC (.int 8))])))) (tNotF (fTest (fCall sem_are_ties (fAs [fV (fVar 0), fV (fVar 1)]))))) (fBad) (fNx)) (fSeq (fIf (tNotF (fTest (fCall sem_is_between (fAs [fV (fVar 2), fV (fC (.int 0)), fV (fC (.int 60))])))) (fBad) (fNx)) (fSeq (fIf (fTest (fOp2 oGt (fV (fOp2 oMul (fV (fOp2 oMul (fV (fC (.int 2))) (fV (fOpL oLen (fAs [fPk 1]))))) (fPk 2))) (fV (fC (.int 60))))) (fRaise1 2 "most" (fC (.int 60))) (fNx)) (fSeq (fSetN 3 (fOpV oLstD (fAs []))) (fSeq (fFor (iRng (fAs [fV (fVar 2)])) (bName 4) (fFor (iAnyF (fVar 1)) (bTup [bName 5, bName 6]) (fDrop (fMt 3 mExtend (fAs [fV (fOpV oLstD (fAs [fV (fOpV oTupD (fAs [fV (fVar 5), fV (fVar 6), fV (fVar 4)])), fV (fOpV oTupD (fAs [fV (fVar 6), fV (fVar 5), fV (fVar 4)]))]))]))))) (fRet (fMake 0 sem_Schedule___init__ (fAs [fV (fVar 0), fV (fOpL oTuple (fAs [fPk 3]))])))))))
noncomputable def sem_net_schedule : Fn := runF 7 body_net_schedule
abbrev s_without : Stmt := topS 24
abbrev N_without : List Str := ["schedule", "letters", "left", "number", "letter"]
noncomputable def body_without : Nv → R Fl := fSeq (fIf (tNotF (fTest (fCall sem_is_lot (fAs [fV (fVar 1), fV (fOpL oLen (fAs [fV (fFld "letters" (fPk 0))]))])))) (fBad) (fNx)) (fSeq (fSetN 2 (fLc (iEnumF (fAs [fV (fFld "letters" (fPk 0))])) (bTup [bName 3, bName 4]) (fTest (fOp2 oNotIn (fPk 3) (fPk 1))) (fVar 4) [3, 4])) (fRet (fMake 0 sem_Schedule___init__ (fAs [fV (fFld "many" (fPk 0)), fV (fOpL oTuple (fAs [fPk 2]))]))))
noncomputable def sem_without : Fn := runF 5 body_without
abbrev s__law_equals : Stmt := topS 38
abbrev N__law_equals : List Str := ["hand", "many", "letters", "one", "other", "at"]
noncomputable def body__law_equals : Nv → R Fl := fSeq (fPar 3 4 (fMake 0 sem_Schedule___init__ (fAs [fV (fVar 1), fV (fVar 2)])) (fMake 0 sem_Schedule___init__ (fAs [fV (fVar 1), fV (fOpL oTuple (fAs [fV (fOpL oList (fAs [fPk 2]))]))]))) (fSeq (fIf (tOrF (tNotF (fTest (fEqI 0 sem_Schedule___eq__ (fPk 3) (fPk 4)))) (tOrF (fTest (fEqI 0 sem_Schedule___eq__ (fPk 3) (fV (fOpV oTupD (fAs [fV (fVar 1), fV (fVar 2)]))))) (tOrF (fTest (fEqI 0 sem_Schedule___eq__ (fPk 3) (fV (fC .non)))) (fTest (fEqI 0 sem_Schedule___eq__ (fPk 3) (fPk 2)))))) (fRet (fC (.bl false))) (fNx)) (fSeq (fIf (tAndF (fTest (fOp2 oLt (fPk 1) (fV (fC (.int 8))))) (fTest (fEqI 0 sem_Schedule___eq__ (fPk 3) (fV (fMake 0 sem_Schedule___init__ (fAs [fV (fOp2 oAdd (fPk 1) (fV (fC (.int 1)))), fV (fVar 2)])))))) (fRet (fC (.bl false))) (fNx)) (fSeq (fSet 5 (fCall sem__law_draw (fAs [fPk 0, fV (fOp2 oAdd (fV (fOpL oLen (fAs [fPk 2]))) (fV (fC (.int 1))))]))) (fRet (fOr (fOp2 oEq (fPk 5) (fV (fOpL oLen (fAs [fPk 2])))) (fNot (fEqI 0 sem_Schedule___eq__ (fPk 3) (fV (fMake 0 sem_Schedule___init__ (fAs [fV (fVar 1), fV (fOp2 oAdd (fV (fSl (fPk 2) (pNone) (pSome (fVar 5)))) (fV (fSl (fPk 2) (pSome (fOp2 oAdd (fPk 5) (fV (fC (.int 1))))) (pNone))))]))))))))))
noncomputable def sem__law_equals : Fn := runF 6 body__law_equals
abbrev s__law_made : Stmt := topS 37
abbrev N__law_made : List Str := ["many", "letters", "made", "e"]
noncomputable def body__law_made : Nv → R Fl := fSeq (fTry1 3 tst_BadSchedule (fSet 2 (fMake 0 sem_Schedule___init__ (fAs [fV (fVar 0), fV (fVar 1)]))) (hRet (xIf (xAndB (xB (xIs tst_TalkError)) (xB (xIs tst_ValueError))) (xFld 1 "part") (xC (.str "other"))))) (fRet (fIf (tAndF (fTest (fCall (sem__law_is 8) (fAs [fV (fFld "many" (fPk 2)), fV (fVar 0)]))) (fTest (fCall (sem__law_is 8) (fAs [fV (fFld "letters" (fPk 2)), fV (fVar 1)])))) (fC (.str "let")) (fC (.str "kept"))))
noncomputable def sem__law_made : Fn := runF 4 body__law_made
abbrev s__law_lines : Stmt := topS 39
abbrev N__law_lines : List Str := ["n", "made", "rows", "beat", "k"]
noncomputable def body__law_lines : Nv → R Fl := fSeq (fSet 1 (fCall sem_turns_line (fAs [fV (fVar 0)]))) (fSeq (fIf (tOrF (tNotF (fTest (fCall (sem__law_is 8) (fAs [fV (fFld "letters" (fPk 1)), fV (fOpL oTuple (fAs [fV (fLc (iRng (fAs [fV (fVar 0)])) (bName 4) (tYesF) (fOpV oTupD (fAs [fV (fOp2 oMod (fV (fOpL oInt (fAs [fPk 4]))) (fV (fC (.int 2)))), fV (fOp2 oSub (fV (fC (.int 1))) (fV (fOp2 oMod (fV (fOpL oInt (fAs [fPk 4]))) (fV (fC (.int 2)))))), fV (fVar 4)])) [4])]))])))) (fTest (fOp2 oNe (fV (fFld "many" (fPk 1))) (fV (fC (.int 2)))))) (fRet (fC (.bl false))) (fNx)) (fSeq (fIf (fTest (fOp2 oGt (fPk 0) (fV (fC (.int 30))))) (fRet (fC (.bl true))) (fNx)) (fSeq (fSet 2 (fOpV oLstD (fAs []))) (fSeq (fFor (iRng (fAs [fV (fVar 0)])) (bName 3) (fSet 2 (fOp2 oAdd (fPk 2) (fV (fOpV oLstD (fAs [fV (fOpV oTupD (fAs [fV (fC (.int 0)), fV (fC (.int 1)), fV (fVar 3)])), fV (fOpV oTupD (fAs [fV (fC (.int 1)), fV (fC (.int 0)), fV (fVar 3)]))])))))) (fSeq (fSet 1 (fCall sem_both_line (fAs [fV (fVar 0)]))) (fRet (fAnd (fCall (sem__law_is 8) (fAs [fV (fFld "letters" (fPk 1)), fV (fOpL oTuple (fAs [fPk 2]))])) (fCall (sem__law_is 8) (fAs [fV (fFld "many" (fPk 1)), fV (fC (.int 2))])))))))))
noncomputable def sem__law_lines : Fn := runF 5 body__law_lines
abbrev s__law_net : Stmt := topS 40
abbrev N__law_net : List Str := ["many", "ties", "beats", "most", "made", "rows", "beat", "e", "one", "other"]
noncomputable def body__law_net : Nv → R Fl := fSeq (fAsg (fOpV oTupD (fAs [fV (fC .non), fV (fC .non)])) (bTup [bName 3, bName 4])) (fSeq (fTry1 7 tst_TooMany (fSet 4 (fCall sem_net_schedule (fAs [fV (fVar 0), fV (fVar 1), fV (fVar 2)]))) (hSet 3 (xFld 2 "most"))) (fSeq (fIf (fTest (fOp2 oGt (fV (fOp2 oMul (fV (fOp2 oMul (fV (fC (.int 2))) (fV (fOpL oLen (fAs [fPk 1]))))) (fPk 2))) (fV (fC (.int 60))))) (fRet (fCall (sem__law_is 8) (fAs [fV (fVar 3), fV (fC (.int 60))]))) (fNx)) (fSeq (fIf (tOrF (fTest (fOp2 oNotN (fPk 3) (fV (fC .non)))) (fTest (fOp2 oIsN (fPk 4) (fV (fC .non))))) (fRet (fC (.bl false))) (fNx)) (fSeq (fSet 5 (fOpV oLstD (fAs []))) (fSeq (fFor (iRng (fAs [fV (fVar 2)])) (bName 6) (fFor (iAnyF (fVar 1)) (bTup [bName 8, bName 9]) (fSet 5 (fOp2 oAdd (fPk 5) (fV (fOpV oLstD (fAs [fV (fOpV oTupD (fAs [fV (fVar 8), fV (fVar 9), fV (fVar 6)])), fV (fOpV oTupD (fAs [fV (fVar 9), fV (fVar 8), fV (fVar 6)]))]))))))) (fRet (fAnd (fCall (sem__law_is 8) (fAs [fV (fFld "letters" (fPk 4)), fV (fOpL oTuple (fAs [fPk 5]))])) (fCall (sem__law_is 8) (fAs [fV (fFld "many" (fPk 4)), fV (fVar 0)])))))))))
noncomputable def sem__law_net : Fn := runF 10 body__law_net
abbrev s_law : Stmt := topS 41
abbrev N_law : List Str := ["script", "hand", "many", "letters", "turn", "ties", "share", "one", "room", "lot", "left", "due", "bad", "other", "step", "at"]
noncomputable def body_law : Nv → R Fl := fSeq (fSetN 1 (fCallN sem__law_hand (fAs [fV (fVar 0)]))) (fSeq (fSet 2 (fOp2 oAdd (fV (fC (.int 2))) (fV (fCall sem__law_draw (fAs [fPk 1, fV (fC (.int 7))]))))) (fSeq (fSet 3 (fCall sem__law_letters (fAs [fPk 1, fV (fVar 2), fV (fCall sem__law_some (fAs [fPk 1, fV (fOpV oLstD (fAs [fV (fC (.int 0)), fV (fC (.int 1)), fV (fC (.int 3)), fV (fC (.int 6)), fV (fC (.int 12)), fV (fC (.int 60))]))]))]))) (fSeq (fIf (fTest (fOp2 oEq (fV (fCall sem__law_draw (fAs [fPk 1, fV (fC (.int 8))]))) (fV (fC (.int 0))))) (fSet 3 (fCall sem__law_full (fAs [fPk 1, fV (fVar 2)]))) (fNx)) (fSeq (fIf (fTest (fOp2 oNe (fV (fCall sem__law_made (fAs [fV (fVar 2), fV (fVar 3)]))) (fV (fCall sem__law_part (fAs [fV (fVar 2), fV (fVar 3)]))))) (fRet (fC (.bl false))) (fNx)) (fSeq (fIf (fTest (fOp2 oLe (fV (fOpL oLen (fAs [fPk 3]))) (fV (fC (.int 60))))) (fSeq (fIf (tNotF (fTest (fCall sem__law_equals (fAs [fPk 1, fV (fVar 2), fV (fVar 3)])))) (fRet (fC (.bl false))) (fNx)) (fSeq (fSet 9 (fOpL oTuple (fAs [fV (fLc (iRng (fAs [fV (fOpL oLen (fAs [fPk 3]))])) (bName 15) (fTest (fOp2 oEq (fV (fCall sem__law_draw (fAs [fPk 1, fV (fC (.int 3))]))) (fV (fC (.int 0))))) (fVar 15) [15])]))) (fSeq (fIf (fTest (fOp2 oEq (fV (fCall sem__law_draw (fAs [fPk 1, fV (fC (.int 4))]))) (fV (fC (.int 0))))) (fSet 9 (fCall sem__law_some (fAs [fPk 1, fV (fOpV oLstD (fAs [fV (fOpV oTupD (fAs [])), fV (fTupR (fOpL oLen (fAs [fPk 3])))]))]))) (fNx)) (fSeq (fSet 10 (fCall sem_without (fAs [fV (fMake 0 sem_Schedule___init__ (fAs [fV (fVar 2), fV (fVar 3)])), fV (fVar 9)]))) (fSeq (fSet 11 (fOpL oTuple (fAs [fV (fLc (iRng (fAs [fV (fOpL oLen (fAs [fPk 3]))])) (bName 15) (fTest (fOp2 oNotIn (fPk 15) (fPk 9))) (fOp2 oIx (fPk 3) (fPk 15)) [15])]))) (fIf (tOrF (tNotF (fTest (fCall (sem__law_is 8) (fAs [fV (fFld "letters" (fPk 10)), fV (fVar 11)])))) (tNotF (fTest (fCall (sem__law_is 8) (fAs [fV (fFld "many" (fPk 10)), fV (fVar 2)]))))) (fRet (fC (.bl false))) (fNx))))))) (fNx)) (fSeq (fFor (iRng (fAs [fV (fC (.int 3))])) (bName 4) (fSeq (fPar 12 13 (fVar 3) (fVar 2)) (fSeq (fFor (iRng (fAs [fV (fOp2 oAdd (fV (fC (.int 1))) (fV (fCall sem__law_draw (fAs [fPk 1, fV (fC (.int 2))]))))])) (bName 14) (fIf (fTest (fOp2 oGt (fV (fOpL oLen (fAs [fPk 12]))) (fV (fC (.int 0))))) (fSet 12 (fCall sem__law_spoilt (fAs [fPk 1, fV (fVar 2), fV (fVar 12)]))) (fNx))) (fSeq (fIf (fTest (fOp2 oEq (fV (fCall sem__law_draw (fAs [fPk 1, fV (fC (.int 6))]))) (fV (fC (.int 0))))) (fSet 13 (fCall sem__law_some (fAs [fPk 1, fV (fOpV oLstD (fAs [fV (fC (.int 0)), fV (fC (.int 1)), fV (fC (.int 2)), fV (fC (.int 8)), fV (fC (.int 9)), fV (fC (.bl true)), fV (fC .non), fV (fC (.str "2")), fV (fNeg (fC (.int 1))), fV (fOp2 oPow (fV (fC (.int 10))) (fV (fC (.int 19)))), fV (fOpV oTupD (fAs [fV (fC (.int 2))])), fV (fOpV oLstD (fAs [fV (fC (.int 2))])), fV (fCall sem__law_deep (fAs [fV (fC (.int 0))]))]))]))) (fNx)) (fSeq (fIf (fTest (fOp2 oEq (fV (fCall sem__law_draw (fAs [fPk 1, fV (fC (.int 8))]))) (fV (fC (.int 0))))) (fSet 12 (fCall sem__law_some (fAs [fPk 1, fV (fOpV oLstD (fAs [fV (fOpL oList (fAs [fPk 12])), fV (fC .non), fV (fC (.int 0)), fV (fC (.str "")), fV (fEmp), fV (fCall sem__law_deep (fAs [fV (fC (.int 0))])), fV (fCall sem__law_deep (fAs [fV (fC (.int 1))])), fV (fOp2 oAdd (fPk 12) (fPk 12))]))]))) (fNx)) (fIf (tNotF (fTest (fCall (sem__law_is 8) (fAs [fV (fCall sem__law_made (fAs [fV (fVar 13), fV (fVar 12)])), fV (fCall sem__law_part (fAs [fV (fVar 13), fV (fVar 12)]))])))) (fRet (fC (.bl false))) (fNx))))))) (fSeq (fIf (tNotF (fTest (fCall sem__law_lines (fAs [fV (fCall sem__law_some (fAs [fPk 1, fV (fOpV oLstD (fAs [fV (fC (.int 0)), fV (fC (.int 1)), fV (fC (.int 2)), fV (fC (.int 30)), fV (fC (.int 31)), fV (fC (.int 60)), fV (fCall sem__law_draw (fAs [fPk 1, fV (fC (.int 61))]))]))]))])))) (fRet (fC (.bl false))) (fNx)) (fSeq (fAsg (fOpV oTupD (fAs [fV (fOpV oTupD (fAs [])), fV (fCall sem__law_some (fAs [fPk 1, fV (fOpV oLstD (fAs [fV (fC (.int 1)), fV (fC (.int 2)), fV (fC (.int 4))]))]))])) (bTup [bName 5, bName 6])) (fSeq (fFor (iRng (fAs [fV (fVar 2)])) (bName 7) (fSet 5 (fOp2 oAdd (fPk 5) (fV (fOpL oTuple (fAs [fV (fLc (iRng (fAs [fV (fOp2 oAdd (fPk 7) (fV (fC (.int 1)))), fV (fVar 2)])) (bName 13) (fTest (fOp2 oEq (fV (fCall sem__law_draw (fAs [fPk 1, fV (fVar 6)]))) (fV (fC (.int 0))))) (fOpV oTupD (fAs [fV (fVar 7), fV (fVar 13)])) [13])])))))) (fSeq (fSet 8 (fOp2 oDiv (fV (fC (.int 30))) (fV (fOpL oMax2 (fAs [fV (fC (.int 1)), fV (fOpL oLen (fAs [fPk 5]))]))))) (fRet (fCall sem__law_net (fAs [fV (fVar 2), fV (fVar 5), fV (fCall sem__law_some (fAs [fPk 1, fV (fOpV oLstD (fAs [fV (fC (.int 0)), fV (fC (.int 1)), fV (fC (.int 2)), fV (fC (.int 3)), fV (fC (.int 30)), fV (fC (.int 60)), fV (fVar 8), fV (fOpL oMin2 (fAs [fV (fC (.int 60)), fV (fOp2 oAdd (fPk 8) (fV (fC (.int 1))))]))]))]))])))))))))))))
noncomputable def sem_law : Fn := runF 16 body_law
end Law

namespace Law
open PySem PySem.Spec PyProof.Rows L2 FL
/-- where things stand -/
structure Adr where
  a_is_integer : Addr
  d_is_integer : FuncData
  a_is_between : Addr
  d_is_between : FuncData
  a_is_sized : Addr
  d_is_sized : FuncData
  a_is_lot : Addr
  d_is_lot : FuncData
  a_BadSchedule___init__ : Addr
  d_BadSchedule___init__ : FuncData
  a_TooMany___init__ : Addr
  d_TooMany___init__ : FuncData
  a_is_letter : Addr
  d_is_letter : FuncData
  a_first_wrong : Addr
  d_first_wrong : FuncData
  a_Schedule___init__ : Addr
  d_Schedule___init__ : FuncData
  a_Schedule___eq__ : Addr
  d_Schedule___eq__ : FuncData
  a_turns_line : Addr
  d_turns_line : FuncData
  a_both_line : Addr
  d_both_line : FuncData
  a_are_ties : Addr
  d_are_ties : FuncData
  a_net_schedule : Addr
  d_net_schedule : FuncData
  a_without : Addr
  d_without : FuncData
  a__law_hand : Addr
  d__law_hand : FuncData
  a__law_draw : Addr
  d__law_draw : FuncData
  a__law_some : Addr
  d__law_some : FuncData
  a__law_is : Addr
  d__law_is : FuncData
  a__law_is_number : Addr
  d__law_is_number : FuncData
  a__law_deep : Addr
  d__law_deep : FuncData
  a__law_letters : Addr
  d__law_letters : FuncData
  a__law_is_letter : Addr
  d__law_is_letter : FuncData
  a__law_part : Addr
  d__law_part : FuncData
  a__law_spoilt : Addr
  d__law_spoilt : FuncData
  a__law_full : Addr
  d__law_full : FuncData
  a__law_made : Addr
  d__law_made : FuncData
  a__law_equals : Addr
  d__law_equals : FuncData
  a__law_lines : Addr
  d__law_lines : FuncData
  a__law_net : Addr
  d__law_net : FuncData
  a_law : Addr
  d_law : FuncData
  c_TalkError : Addr
  c_BadSchedule : Addr
  c_TooMany : Addr
  c_NoNumber : Addr
  c_NoNet : Addr
  c_NoLetters : Addr
  c_Schedule : Addr
def gm (K : PySem.W.Frag) (a : Adr) : Gm := ⟨K, fun c => match c with  | _ => a.c_Schedule, fun c => match c with | 1 => a.c_BadSchedule | 2 => a.c_TooMany | 3 => a.c_NoNumber | 4 => a.c_NoNet | 5 => a.c_NoLetters | _ => a.c_TalkError, fun _ => .non⟩
structure Txt (K : PySem.W.Frag) (mg : Str → Option Value) (a : Adr) : Prop where
  f_is_integer : Fun K "is_integer" "is_integer" s_is_integer a.a_is_integer a.d_is_integer
  b_is_integer : Binds K a.d_is_integer ["thing"] []
  mg_is_integer : mg "is_integer" = some (.ref a.a_is_integer)
  kp_is_integer : PySem.W.keepIn K (.ref a.a_is_integer) = true
  f_is_between : Fun K "is_between" "is_between" s_is_between a.a_is_between a.d_is_between
  b_is_between : Binds K a.d_is_between ["thing", "low", "high"] []
  mg_is_between : mg "is_between" = some (.ref a.a_is_between)
  kp_is_between : PySem.W.keepIn K (.ref a.a_is_between) = true
  f_is_sized : Fun K "is_sized" "is_sized" s_is_sized a.a_is_sized a.d_is_sized
  b_is_sized : Binds K a.d_is_sized ["thing", "low", "high"] []
  mg_is_sized : mg "is_sized" = some (.ref a.a_is_sized)
  kp_is_sized : PySem.W.keepIn K (.ref a.a_is_sized) = true
  f_is_lot : Fun K "is_lot" "is_lot" s_is_lot a.a_is_lot a.d_is_lot
  b_is_lot : Binds K a.d_is_lot ["thing", "below"] []
  mg_is_lot : mg "is_lot" = some (.ref a.a_is_lot)
  kp_is_lot : PySem.W.keepIn K (.ref a.a_is_lot) = true
  f_BadSchedule___init__ : Fun K "__init__" "BadSchedule.__init__" s_BadSchedule___init__ a.a_BadSchedule___init__ a.d_BadSchedule___init__
  b_BadSchedule___init__ : Binds K a.d_BadSchedule___init__ ["self", "part"] []
  kp_BadSchedule___init__ : PySem.W.keepIn K (.ref a.a_BadSchedule___init__) = true
  f_TooMany___init__ : Fun K "__init__" "TooMany.__init__" s_TooMany___init__ a.a_TooMany___init__ a.d_TooMany___init__
  b_TooMany___init__ : Binds K a.d_TooMany___init__ ["self", "most"] []
  kp_TooMany___init__ : PySem.W.keepIn K (.ref a.a_TooMany___init__) = true
  f_is_letter : Fun K "is_letter" "is_letter" s_is_letter a.a_is_letter a.d_is_letter
  b_is_letter : Binds K a.d_is_letter ["many", "thing"] []
  mg_is_letter : mg "is_letter" = some (.ref a.a_is_letter)
  kp_is_letter : PySem.W.keepIn K (.ref a.a_is_letter) = true
  f_first_wrong : Fun K "first_wrong" "first_wrong" s_first_wrong a.a_first_wrong a.d_first_wrong
  b_first_wrong : Binds K a.d_first_wrong ["many", "letters"] []
  mg_first_wrong : mg "first_wrong" = some (.ref a.a_first_wrong)
  kp_first_wrong : PySem.W.keepIn K (.ref a.a_first_wrong) = true
  f_Schedule___init__ : Fun K "__init__" "Schedule.__init__" s_Schedule___init__ a.a_Schedule___init__ a.d_Schedule___init__
  b_Schedule___init__ : Binds K a.d_Schedule___init__ ["self", "many", "letters"] []
  kp_Schedule___init__ : PySem.W.keepIn K (.ref a.a_Schedule___init__) = true
  f_Schedule___eq__ : Fun K "__eq__" "Schedule.__eq__" s_Schedule___eq__ a.a_Schedule___eq__ a.d_Schedule___eq__
  b_Schedule___eq__ : Binds K a.d_Schedule___eq__ ["self", "thing"] []
  kp_Schedule___eq__ : PySem.W.keepIn K (.ref a.a_Schedule___eq__) = true
  f_turns_line : Fun K "turns_line" "turns_line" s_turns_line a.a_turns_line a.d_turns_line
  b_turns_line : Binds K a.d_turns_line ["n"] []
  mg_turns_line : mg "turns_line" = some (.ref a.a_turns_line)
  kp_turns_line : PySem.W.keepIn K (.ref a.a_turns_line) = true
  f_both_line : Fun K "both_line" "both_line" s_both_line a.a_both_line a.d_both_line
  b_both_line : Binds K a.d_both_line ["n"] []
  mg_both_line : mg "both_line" = some (.ref a.a_both_line)
  kp_both_line : PySem.W.keepIn K (.ref a.a_both_line) = true
  f_are_ties : Fun K "are_ties" "are_ties" s_are_ties a.a_are_ties a.d_are_ties
  b_are_ties : Binds K a.d_are_ties ["many", "thing"] []
  mg_are_ties : mg "are_ties" = some (.ref a.a_are_ties)
  kp_are_ties : PySem.W.keepIn K (.ref a.a_are_ties) = true
  f_net_schedule : Fun K "net_schedule" "net_schedule" s_net_schedule a.a_net_schedule a.d_net_schedule
  b_net_schedule : Binds K a.d_net_schedule ["many", "ties", "beats"] []
  mg_net_schedule : mg "net_schedule" = some (.ref a.a_net_schedule)
  kp_net_schedule : PySem.W.keepIn K (.ref a.a_net_schedule) = true
  f_without : Fun K "without" "without" s_without a.a_without a.d_without
  b_without : Binds K a.d_without ["schedule", "letters"] []
  mg_without : mg "without" = some (.ref a.a_without)
  kp_without : PySem.W.keepIn K (.ref a.a_without) = true
  f__law_hand : Fun K "_law_hand" "_law_hand" s__law_hand a.a__law_hand a.d__law_hand
  b__law_hand : Binds K a.d__law_hand ["script"] []
  mg__law_hand : mg "_law_hand" = some (.ref a.a__law_hand)
  kp__law_hand : PySem.W.keepIn K (.ref a.a__law_hand) = true
  f__law_draw : Fun K "_law_draw" "_law_draw" s__law_draw a.a__law_draw a.d__law_draw
  b__law_draw : Binds K a.d__law_draw ["hand", "many"] []
  mg__law_draw : mg "_law_draw" = some (.ref a.a__law_draw)
  kp__law_draw : PySem.W.keepIn K (.ref a.a__law_draw) = true
  f__law_some : Fun K "_law_some" "_law_some" s__law_some a.a__law_some a.d__law_some
  b__law_some : Binds K a.d__law_some ["hand", "things"] []
  mg__law_some : mg "_law_some" = some (.ref a.a__law_some)
  kp__law_some : PySem.W.keepIn K (.ref a.a__law_some) = true
  f__law_is : Fun K "_law_is" "_law_is" s__law_is a.a__law_is a.d__law_is
  b__law_is : Binds K a.d__law_is ["told", "due"] []
  mg__law_is : mg "_law_is" = some (.ref a.a__law_is)
  kp__law_is : PySem.W.keepIn K (.ref a.a__law_is) = true
  f__law_is_number : Fun K "_law_is_number" "_law_is_number" s__law_is_number a.a__law_is_number a.d__law_is_number
  b__law_is_number : Binds K a.d__law_is_number ["thing", "many"] []
  mg__law_is_number : mg "_law_is_number" = some (.ref a.a__law_is_number)
  kp__law_is_number : PySem.W.keepIn K (.ref a.a__law_is_number) = true
  f__law_deep : Fun K "_law_deep" "_law_deep" s__law_deep a.a__law_deep a.d__law_deep
  b__law_deep : Binds K a.d__law_deep ["kind"] []
  mg__law_deep : mg "_law_deep" = some (.ref a.a__law_deep)
  kp__law_deep : PySem.W.keepIn K (.ref a.a__law_deep) = true
  f__law_letters : Fun K "_law_letters" "_law_letters" s__law_letters a.a__law_letters a.d__law_letters
  b__law_letters : Binds K a.d__law_letters ["hand", "many", "most"] []
  mg__law_letters : mg "_law_letters" = some (.ref a.a__law_letters)
  kp__law_letters : PySem.W.keepIn K (.ref a.a__law_letters) = true
  f__law_is_letter : Fun K "_law_is_letter" "_law_is_letter" s__law_is_letter a.a__law_is_letter a.d__law_is_letter
  b__law_is_letter : Binds K a.d__law_is_letter ["many", "one"] []
  mg__law_is_letter : mg "_law_is_letter" = some (.ref a.a__law_is_letter)
  kp__law_is_letter : PySem.W.keepIn K (.ref a.a__law_is_letter) = true
  f__law_part : Fun K "_law_part" "_law_part" s__law_part a.a__law_part a.d__law_part
  b__law_part : Binds K a.d__law_part ["many", "letters"] []
  mg__law_part : mg "_law_part" = some (.ref a.a__law_part)
  kp__law_part : PySem.W.keepIn K (.ref a.a__law_part) = true
  f__law_spoilt : Fun K "_law_spoilt" "_law_spoilt" s__law_spoilt a.a__law_spoilt a.d__law_spoilt
  b__law_spoilt : Binds K a.d__law_spoilt ["hand", "many", "letters"] []
  mg__law_spoilt : mg "_law_spoilt" = some (.ref a.a__law_spoilt)
  kp__law_spoilt : PySem.W.keepIn K (.ref a.a__law_spoilt) = true
  f__law_full : Fun K "_law_full" "_law_full" s__law_full a.a__law_full a.d__law_full
  b__law_full : Binds K a.d__law_full ["hand", "many"] []
  mg__law_full : mg "_law_full" = some (.ref a.a__law_full)
  kp__law_full : PySem.W.keepIn K (.ref a.a__law_full) = true
  f__law_made : Fun K "_law_made" "_law_made" s__law_made a.a__law_made a.d__law_made
  b__law_made : Binds K a.d__law_made ["many", "letters"] []
  mg__law_made : mg "_law_made" = some (.ref a.a__law_made)
  kp__law_made : PySem.W.keepIn K (.ref a.a__law_made) = true
  f__law_equals : Fun K "_law_equals" "_law_equals" s__law_equals a.a__law_equals a.d__law_equals
  b__law_equals : Binds K a.d__law_equals ["hand", "many", "letters"] []
  mg__law_equals : mg "_law_equals" = some (.ref a.a__law_equals)
  kp__law_equals : PySem.W.keepIn K (.ref a.a__law_equals) = true
  f__law_lines : Fun K "_law_lines" "_law_lines" s__law_lines a.a__law_lines a.d__law_lines
  b__law_lines : Binds K a.d__law_lines ["n"] []
  mg__law_lines : mg "_law_lines" = some (.ref a.a__law_lines)
  kp__law_lines : PySem.W.keepIn K (.ref a.a__law_lines) = true
  f__law_net : Fun K "_law_net" "_law_net" s__law_net a.a__law_net a.d__law_net
  b__law_net : Binds K a.d__law_net ["many", "ties", "beats"] []
  mg__law_net : mg "_law_net" = some (.ref a.a__law_net)
  kp__law_net : PySem.W.keepIn K (.ref a.a__law_net) = true
  f_law : Fun K "law" "law" s_law a.a_law a.d_law
  b_law : Binds K a.d_law ["script"] []
  mg_law : mg "law" = some (.ref a.a_law)
  kp_law : PySem.W.keepIn K (.ref a.a_law) = true
  mg_Schedule : mg "Schedule" = some (.ref a.c_Schedule)
  mk_Schedule : Mk K a.c_Schedule a.a_Schedule___init__
  eq_Schedule : PySem.W.findIn K (.ref a.c_Schedule) "__eq__" = some (some (.ref a.a_Schedule___eq__))
  eqf_Schedule : PySem.W.isFn K (.ref a.a_Schedule___eq__) = true
  cl : ∀ c, Cls K ((gm K a).cls c)
  insTy : ∀ c, InsTy (gm K a) c
  na_part : ∀ c, NoAttr K ((gm K a).cls c) "part"
  na_most : ∀ c, NoAttr K ((gm K a).cls c) "most"
  na_many : ∀ c, NoAttr K ((gm K a).cls c) "many"
  na_letters : ∀ c, NoAttr K ((gm K a).cls c) "letters"
  unl : Unlike (gm K a) 1
  exT : ∀ c, ExcT K ((gm K a).xcl c)
  mgx_BadSchedule : mg "BadSchedule" = some (.ref a.c_BadSchedule)
  mgx_TalkError : mg "TalkError" = some (.ref a.c_TalkError)
  mgx_TooMany : mg "TooMany" = some (.ref a.c_TooMany)
  exm_BadSchedule : ∀ k, PySem.W.exmOne K (.ref ((gm K a).xcl k)) (.ref a.c_BadSchedule) = some (tst_BadSchedule k)
  exm_TooMany : ∀ k, PySem.W.exmOne K (.ref ((gm K a).xcl k)) (.ref a.c_TooMany) = some (tst_TooMany k)
  kit_TalkError : ∀ k, PySem.W.kitOne K (.ref ((gm K a).xcl k)) (.ref a.c_TalkError) = some (tst_TalkError k)
  kit_ValueError : ∀ k, PySem.W.kitOne K (.ref ((gm K a).xcl k)) (.type "ValueError") = some (tst_ValueError k)
  oex_BadSchedule : OexC K a.c_BadSchedule
  xf_BadSchedule : XfC K a.c_BadSchedule
  ini_BadSchedule : PySem.W.findIn K (.ref a.c_BadSchedule) "__init__" = some (some (.ref a.a_BadSchedule___init__))
  tyf_BadSchedule : PySem.W.typeIn K (.ref a.a_BadSchedule___init__) = some (.type "function")
  nof_BadSchedule : PySem.W.findIn K (.ref a.c_BadSchedule) "part" = some none
  oex_TooMany : OexC K a.c_TooMany
  xf_TooMany : XfC K a.c_TooMany
  ini_TooMany : PySem.W.findIn K (.ref a.c_TooMany) "__init__" = some (some (.ref a.a_TooMany___init__))
  tyf_TooMany : PySem.W.typeIn K (.ref a.a_TooMany___init__) = some (.type "function")
  nof_TooMany : PySem.W.findIn K (.ref a.c_TooMany) "most" = some none
  k_LEAST_HOUSES : ∃ u, mg "LEAST_HOUSES" = some u ∧ RelV (.int 2) u
  k_MOST_HOUSES : ∃ u, mg "MOST_HOUSES" = some u ∧ RelV (.int 8) u
  k_MOST_LETTERS : ∃ u, mg "MOST_LETTERS" = some u ∧ RelV (.int 60) u
  k_MOST_BEAT : ∃ u, mg "MOST_BEAT" = some u ∧ RelV (.int 999) u
  b_ValueError : mg "ValueError" = none
  b_abs : mg "abs" = none
  b_all : mg "all" = none
  b_bool : mg "bool" = none
  b_enumerate : mg "enumerate" = none
  b_int : mg "int" = none
  b_isinstance : mg "isinstance" = none
  b_len : mg "len" = none
  b_list : mg "list" = none
  b_max : mg "max" = none
  b_min : mg "min" = none
  b_range : mg "range" = none
  b_str : mg "str" = none
  b_tuple : mg "tuple" = none
  b_zip : mg "zip" = none
section
variable {P : Program} {w : World} {K : PySem.W.Frag} {mg : Str → Option Value} {a : Adr}
theorem sc_is_integer : FnScope N_is_integer ["thing"] (defScope s_is_integer) := ⟨rfl, rfl, rfl, by decide +kernel, rfl, by decide +kernel, by decide +kernel⟩
theorem ok_is_integer (T : Txt K mg a) (base : Heap) : FnOk P w K mg base (L2.CX P w) 1 a.a_is_integer a.d_is_integer ["thing"] (spF (gm K a) 1 sem_is_integer) := by
  refine fn_ok T.f_is_integer sc_is_integer body_is_integer 1 rfl 1 rfl fun cdv A outer sh H E hr => ?_
  have tk : Takes (cxOf (L2.CX P w) P w K mg base N_is_integer "is_integer" (defScope s_is_integer) a.a_is_integer cdv A outer sh H E) (fun cls d _ H => E cls d H) := takes_of rfl rfl rfl rfl
  exact fss_one (fs_ret (fe_and (pe_and (fe_opL (opL_isi _ T.insTy T.unl) (pe_callB call_isi (by rfl) T.b_isinstance (by decide +kernel) (fa_cons (fo_pk (pv 0)) (fa_cons (fo_val (fe_c (pe_bltn (v := .ty "int") (u := .type "int") (by rfl) T.b_int (by decide +kernel) rfl) (.ty "int") (fun _ => rfl))) (fa_nil))))) (pe_one (fe_not (pe_not (fe_opL (opL_isi _ T.insTy T.unl) (pe_callB call_isi (by rfl) T.b_isinstance (by decide +kernel) (fa_cons (fo_pk (pv 0)) (fa_cons (fo_val (fe_c (pe_bltn (v := .ty "bool") (u := .type "bool") (by rfl) T.b_bool (by decide +kernel) rfl) (.ty "bool") (fun _ => rfl))) (fa_nil)))))))))))
theorem sc_is_sized : FnScope N_is_sized ["thing", "low", "high"] (defScope s_is_sized) := ⟨rfl, rfl, rfl, by decide +kernel, rfl, by decide +kernel, by decide +kernel⟩
theorem ok_is_sized (T : Txt K mg a) (base : Heap) : FnOk P w K mg base (L2.CX P w) 1 a.a_is_sized a.d_is_sized ["thing", "low", "high"] (spF (gm K a) 3 sem_is_sized) := by
  refine fn_ok T.f_is_sized sc_is_sized body_is_sized 3 rfl 3 rfl fun cdv A outer sh H E hr => ?_
  have tk : Takes (cxOf (L2.CX P w) P w K mg base N_is_sized "is_sized" (defScope s_is_sized) a.a_is_sized cdv A outer sh H E) (fun cls d _ H => E cls d H) := takes_of rfl rfl rfl rfl
  exact fss_one (fs_ret (fe_and (pe_and (fe_opL (opL_isi _ T.insTy T.unl) (pe_callB call_isi (by rfl) T.b_isinstance (by decide +kernel) (fa_cons (fo_pk (pv 0)) (fa_cons (fo_val (fe_c (pe_bltn (v := .ty "tuple") (u := .type "tuple") (by rfl) T.b_tuple (by decide +kernel) rfl) (.ty "tuple") (fun _ => rfl))) (fa_nil))))) (pe_one (fe_chain (op2_le _) (op2_le _) (pe_chain opr_le opr_le (fo_pk (pv 1)) (fo_val (fe_opL (opL_len _) (pe_callB callr_len (by rfl) T.b_len (by decide +kernel) (fa_cons (fo_pk (pv 0)) (fa_nil))))) (fo_pk (pv 2))))))))
theorem sc_BadSchedule___init__ : FnScope N_BadSchedule___init__ ["self", "part"] (defScope s_BadSchedule___init__) := ⟨rfl, rfl, rfl, by decide +kernel, rfl, by decide +kernel, by decide +kernel⟩
theorem ok_BadSchedule___init__ (T : Txt K mg a) (base : Heap) : FnOk P w K mg base (L2.CX P w) 1 a.a_BadSchedule___init__ a.d_BadSchedule___init__ ["self", "part"] (spI K "part") := by
  exact T.f_BadSchedule___init__.okX sc_BadSchedule___init__ (fun vs H Q E h => spI_len h) fun cdv A outer sh H vs Q E hr h => ⟨_, pss_one (ps_ost (pv 0) (pv 1)), init_read h⟩
theorem sc_TooMany___init__ : FnScope N_TooMany___init__ ["self", "most"] (defScope s_TooMany___init__) := ⟨rfl, rfl, rfl, by decide +kernel, rfl, by decide +kernel, by decide +kernel⟩
theorem ok_TooMany___init__ (T : Txt K mg a) (base : Heap) : FnOk P w K mg base (L2.CX P w) 1 a.a_TooMany___init__ a.d_TooMany___init__ ["self", "most"] (spI K "most") := by
  exact T.f_TooMany___init__.okX sc_TooMany___init__ (fun vs H Q E h => spI_len h) fun cdv A outer sh H vs Q E hr h => ⟨_, pss_one (ps_ost (pv 0) (pv 1)), init_read h⟩
theorem sc_Schedule___eq__ : FnScope N_Schedule___eq__ ["self", "thing"] (defScope s_Schedule___eq__) := ⟨rfl, rfl, rfl, by decide +kernel, rfl, by decide +kernel, by decide +kernel⟩
theorem ok_Schedule___eq__ (T : Txt K mg a) (base : Heap) : FnOk P w K mg base (L2.CX P w) 1 a.a_Schedule___eq__ a.d_Schedule___eq__ ["self", "thing"] (spF (gm K a) 2 sem_Schedule___eq__) := by
  refine fn_ok T.f_Schedule___eq__ sc_Schedule___eq__ body_Schedule___eq__ 2 rfl 2 rfl fun cdv A outer sh H E hr => ?_
  have tk : Takes (cxOf (L2.CX P w) P w K mg base N_Schedule___eq__ "Schedule.__eq__" (defScope s_Schedule___eq__) a.a_Schedule___eq__ cdv A outer sh H E) (fun cls d _ H => E cls d H) := takes_of rfl rfl rfl rfl
  exact fss_one (fs_ret (fe_and (pe_and (fe_opL (opL_isi _ T.insTy T.unl) (pe_callB call_isi (by rfl) T.b_isinstance (by decide +kernel) (fa_cons (fo_pk (pv 1)) (fa_cons (fo_val (fe_c (pe_glob (v := .ref a.c_Schedule) (by rfl) T.mg_Schedule rfl) (.cls 0) (fun _ => rfl))) (fa_nil))))) (fe_and (pe_and (fe_op2 (op2_eq _) (pe_cmpR (op_eqD hr.units) (fo_val (fe_fld rfl T.cl (T.na_many) (pe_fld (fo_pk (pv 0)) rfl))) (fo_val (fe_fld rfl T.cl (T.na_many) (pe_fld (fo_pk (pv 1)) rfl))) (nomark _))) (pe_one (fe_op2 (op2_eq _) (pe_cmpR (op_eqD hr.units) (fo_val (fe_fld rfl T.cl (T.na_letters) (pe_fld (fo_pk (pv 0)) rfl))) (fo_val (fe_fld rfl T.cl (T.na_letters) (pe_fld (fo_pk (pv 1)) rfl))) (nomark _)))))))))
theorem sc__law_hand : FnScope N__law_hand ["script"] (defScope s__law_hand) := ⟨rfl, rfl, rfl, by decide +kernel, rfl, by decide +kernel, by decide +kernel⟩
theorem ok__law_hand (T : Txt K mg a) (base : Heap) : FnOk P w K mg base (L2.CX P w) 1 a.a__law_hand a.d__law_hand ["script"] (spF (gm K a) 1 sem__law_hand) := by
  refine fn_ok T.f__law_hand sc__law_hand body__law_hand 1 rfl 3 rfl fun cdv A outer sh H E hr => ?_
  have tk : Takes (cxOf (L2.CX P w) P w K mg base N__law_hand "_law_hand" (defScope s__law_hand) a.a__law_hand cdv A outer sh H E) (fun cls d _ H => E cls d H) := takes_of rfl rfl rfl rfl
  exact fss_cons (fs_setLc (ps_setLc (i := 1) (own := [("cell", 2)]) rfl sc__law_hand.nd rfl rfl (sw_true rfl rfl rfl (by decide +kernel)) (fi_any rfl (pi_any (fe_sl rfl (pe_slice slr_all (fo_pk (pv 0)) (fp_none) (fp_some (fe_c pe_int (.int 63) (fun _ => rfl))))))) (blkOk_by (N := N__law_hand) (sc := defScope s__law_hand) (by decide +kernel)) (fun _ _ _ _ _ => fgv_name (by decide) (pg_name (i := 2) sc__law_hand.nd rfl (Or.inl rfl))) (fun _ _ _ _ _ => fts_nil) (fun _ _ _ _ _ => fe_opL (opL_abs _) (pe_callB call_abs (by rfl) T.b_abs (by decide +kernel) (fa_cons (fo_val (fe_opL (opL_int _) (pe_callTy call_int1 (by rfl) T.b_int (by decide +kernel) (fa_cons (fo_pk (pv 2)) (fa_nil))))) (fa_nil)))))) (fss_one (fs_retN (fn_lst (pe_lst (fa_cons (fo_val (fe_var (pv 1))) (fa_cons (fo_val (fe_c pe_int (.int 0) (fun _ => rfl))) (fa_cons (fo_val (fe_c pe_int (.int 0) (fun _ => rfl))) (fa_cons (fo_val (fe_op2 (op2_add _) (pe_op opr_add (fo_val (fe_c pe_int (.int 1) (fun _ => rfl))) (fo_val (fe_opL (opL_len _) (pe_callB callr_len (by rfl) T.b_len (by decide +kernel) (fa_cons (fo_pk (pv 1)) (fa_nil)))))))) (fa_cons (fo_val (fe_c pe_int (.int 0) (fun _ => rfl))) (fa_nil))))))))))
theorem sc__law_draw : FnScope N__law_draw ["hand", "many"] (defScope s__law_draw) := ⟨rfl, rfl, rfl, by decide +kernel, rfl, by decide +kernel, by decide +kernel⟩
theorem ok__law_draw (T : Txt K mg a) (base : Heap) : FnOk P w K mg base (L2.CX P w) 1 a.a__law_draw a.d__law_draw ["hand", "many"] (spF (gm K a) 2 sem__law_draw) := by
  refine fn_ok T.f__law_draw sc__law_draw body__law_draw 2 rfl 5 rfl fun cdv A outer sh H E hr => ?_
  have tk : Takes (cxOf (L2.CX P w) P w K mg base N__law_draw "_law_draw" (defScope s__law_draw) a.a__law_draw cdv A outer sh H E) (fun cls d _ H => E cls d H) := takes_of rfl rfl rfl rfl
  exact fss_cons (fs_if (PW.pt (fw_and (ft_op2 (op2_eq _) (pt_cmpR (op_eqD hr.units) (fo_val (fe_op2 (op2_ix _) (pe_ix ix_seq (fo_pk (pv 0)) (fo_val (fe_c pe_int (.int 2) (fun _ => rfl))) (fun _ _ => rfl)))) (fo_val (fe_c pe_int (.int 0) (fun _ => rfl))) (nomark _))) (fw_and1 (ft_op2 (op2_lt _) (pt_cmpR (opr_lt hr.units) (fo_val (fe_op2 (op2_ix _) (pe_ix ix_seq (fo_pk (pv 0)) (fo_val (fe_c pe_int (.int 1) (fun _ => rfl))) (fun _ _ => rfl)))) (fo_val (fe_opL (opL_len _) (pe_callB callr_len (by rfl) T.b_len (by decide +kernel) (fa_cons (fo_val (fe_op2 (op2_ix _) (pe_ix ix_seq (fo_pk (pv 0)) (fo_val (fe_c pe_int (.int 0) (fun _ => rfl))) (fun _ _ => rfl)))) (fa_nil))))) (nomark _)))))) (fss_cons (fs_set (ps_set (i := 3) sc__law_draw.nd rfl (Or.inl rfl) (fe_op2 (op2_ix _) (pe_ix ix_seq (fo_val (fe_op2 (op2_ix _) (pe_ix ix_seq (fo_pk (pv 0)) (fo_val (fe_c pe_int (.int 0) (fun _ => rfl))) (fun _ _ => rfl)))) (fo_val (fe_op2 (op2_ix _) (pe_ix ix_seq (fo_pk (pv 0)) (fo_val (fe_c pe_int (.int 1) (fun _ => rfl))) (fun _ _ => rfl)))) (fun _ _ => rfl))))) (fss_cons (fs_setIx (ps_asg (fe_op2 (op2_add _) (pe_op opr_add (fo_val (fe_op2 (op2_ix _) (pe_ix ix_seq (fo_pk (pv 0)) (fo_val (fe_c pe_int (.int 1) (fun _ => rfl))) (fun _ _ => rfl)))) (fo_val (fe_c pe_int (.int 1) (fun _ => rfl))))) (pg_sub (fo_pk (pv 0)) (fe_c pe_int (.int 1) (fun _ => rfl)) set_list))) (fss_cons (fs_setIx (ps_asg (fe_op2 (op2_mod _) (pe_op op_mod (fo_val (fe_opL (opL_int _) (pe_callTy call_int1 (by rfl) T.b_int (by decide +kernel) (fa_cons (fo_val (fe_op2 (op2_add _) (pe_op opr_add (fo_val (fe_op2 (op2_add _) (pe_op opr_add (fo_val (fe_op2 (op2_mul _) (pe_op opr_mul (fo_val (fe_op2 (op2_ix _) (pe_ix ix_seq (fo_pk (pv 0)) (fo_val (fe_c pe_int (.int 3) (fun _ => rfl))) (fun _ _ => rfl)))) (fo_val (fe_c pe_int (.int 69621) (fun _ => rfl)))))) (fo_pk (pv 3))))) (fo_val (fe_c pe_int (.int 11) (fun _ => rfl)))))) (fa_nil))))) (fo_val (fe_c pe_int (.int 2147483629) (fun _ => rfl))))) (pg_sub (fo_pk (pv 0)) (fe_c pe_int (.int 3) (fun _ => rfl)) set_list))) (fss_one (fs_if (ft_op2 (op2_ge _) (pt_cmpR opr_ge (fo_pk (pv 3)) (fo_val (fe_op2 (op2_pow _) (pe_op op_pow (fo_val (fe_c pe_int (.int 10) (fun _ => rfl))) (fo_val (fe_c pe_int (.int 18) (fun _ => rfl)))))) (nomark _))) (fss_one (fs_setIx (ps_asg (fe_var (pv 3)) (pg_sub (fo_pk (pv 0)) (fe_c pe_int (.int 2) (fun _ => rfl)) set_list)))) (fss_nil)))))) (fss_nil)) (fss_cons (fs_if (ft_op2 (op2_gt _) (pt_cmpR opr_gt (fo_val (fe_op2 (op2_ix _) (pe_ix ix_seq (fo_pk (pv 0)) (fo_val (fe_c pe_int (.int 2) (fun _ => rfl))) (fun _ _ => rfl)))) (fo_val (fe_c pe_int (.int 0) (fun _ => rfl))) (nomark _))) (fss_cons (fs_set (ps_set (i := 4) sc__law_draw.nd rfl (Or.inl rfl) (fe_op2 (op2_mod _) (pe_op op_mod (fo_val (fe_opL (opL_int _) (pe_callTy call_int1 (by rfl) T.b_int (by decide +kernel) (fa_cons (fo_val (fe_op2 (op2_ix _) (pe_ix ix_seq (fo_pk (pv 0)) (fo_val (fe_c pe_int (.int 2) (fun _ => rfl))) (fun _ _ => rfl)))) (fa_nil))))) (fo_pk (pv 1)))))) (fss_cons (fs_setIx (ps_asg (fe_op2 (op2_div _) (pe_op op_fdiv (fo_val (fe_op2 (op2_ix _) (pe_ix ix_seq (fo_pk (pv 0)) (fo_val (fe_c pe_int (.int 2) (fun _ => rfl))) (fun _ _ => rfl)))) (fo_pk (pv 1)))) (pg_sub (fo_pk (pv 0)) (fe_c pe_int (.int 2) (fun _ => rfl)) set_list))) (fss_one (fs_ret (fe_var (pv 4)))))) (fss_nil)) (fss_cons (fs_setIx (ps_asg (fe_op2 (op2_add _) (pe_op opr_add (fo_val (fe_op2 (op2_ix _) (pe_ix ix_seq (fo_pk (pv 0)) (fo_val (fe_c pe_int (.int 4) (fun _ => rfl))) (fun _ _ => rfl)))) (fo_val (fe_c pe_int (.int 1) (fun _ => rfl))))) (pg_sub (fo_pk (pv 0)) (fe_c pe_int (.int 4) (fun _ => rfl)) set_list))) (fss_cons (fs_set (ps_set (i := 2) sc__law_draw.nd rfl (Or.inl rfl) (fe_op2 (op2_mod _) (pe_op op_mod (fo_val (fe_opL (opL_int _) (pe_callTy call_int1 (by rfl) T.b_int (by decide +kernel) (fa_cons (fo_val (fe_op2 (op2_mul _) (pe_op opr_mul (fo_val (fe_opL (opL_int _) (pe_callTy call_int1 (by rfl) T.b_int (by decide +kernel) (fa_cons (fo_val (fe_op2 (op2_add _) (pe_op opr_add (fo_val (fe_op2 (op2_ix _) (pe_ix ix_seq (fo_pk (pv 0)) (fo_val (fe_c pe_int (.int 3) (fun _ => rfl))) (fun _ _ => rfl)))) (fo_val (fe_op2 (op2_mul _) (pe_op opr_mul (fo_val (fe_c pe_int (.int 7919) (fun _ => rfl))) (fo_val (fe_op2 (op2_ix _) (pe_ix ix_seq (fo_pk (pv 0)) (fo_val (fe_c pe_int (.int 4) (fun _ => rfl))) (fun _ _ => rfl)))))))))) (fa_nil))))) (fo_val (fe_c pe_int (.int 48271) (fun _ => rfl)))))) (fa_nil))))) (fo_val (fe_c pe_int (.int 2147483647) (fun _ => rfl))))))) (fss_cons (fs_set (ps_set (i := 2) sc__law_draw.nd rfl (Or.inl rfl) (fe_op2 (op2_mod _) (pe_op op_mod (fo_val (fe_opL (opL_int _) (pe_callTy call_int1 (by rfl) T.b_int (by decide +kernel) (fa_cons (fo_val (fe_op2 (op2_mul _) (pe_op opr_mul (fo_pk (pv 2)) (fo_val (fe_op2 (op2_add _) (pe_op opr_add (fo_val (fe_op2 (op2_div _) (pe_op op_fdiv (fo_pk (pv 2)) (fo_val (fe_c pe_int (.int 1009) (fun _ => rfl)))))) (fo_val (fe_c pe_int (.int 69621) (fun _ => rfl))))))))) (fa_nil))))) (fo_val (fe_c pe_int (.int 2147483647) (fun _ => rfl))))))) (fss_cons (fs_set (ps_set (i := 2) sc__law_draw.nd rfl (Or.inl rfl) (fe_op2 (op2_mod _) (pe_op op_mod (fo_val (fe_opL (opL_int _) (pe_callTy call_int1 (by rfl) T.b_int (by decide +kernel) (fa_cons (fo_val (fe_op2 (op2_mul _) (pe_op opr_mul (fo_pk (pv 2)) (fo_val (fe_op2 (op2_add _) (pe_op opr_add (fo_val (fe_op2 (op2_div _) (pe_op op_fdiv (fo_pk (pv 2)) (fo_val (fe_c pe_int (.int 2003) (fun _ => rfl)))))) (fo_val (fe_c pe_int (.int 40692) (fun _ => rfl))))))))) (fa_nil))))) (fo_val (fe_c pe_int (.int 2147483399) (fun _ => rfl))))))) (fss_one (fs_ret (fe_op2 (op2_mod _) (pe_op op_mod (fo_val (fe_opL (opL_int _) (pe_callTy call_int1 (by rfl) T.b_int (by decide +kernel) (fa_cons (fo_val (fe_op2 (op2_div _) (pe_op op_fdiv (fo_pk (pv 2)) (fo_val (fe_c pe_int (.int 16) (fun _ => rfl)))))) (fa_nil))))) (fo_pk (pv 1)))))))))))
theorem sc__law_is : FnScope N__law_is ["told", "due"] (defScope s__law_is) := ⟨rfl, rfl, rfl, by decide +kernel, rfl, by decide +kernel, by decide +kernel⟩
theorem okS__law_is (T : Txt K mg a) (base : Heap) (m : Nat) (ih : FnOk P w K mg base (L2.CX P w) (1 + m) a.a__law_is a.d__law_is ["told", "due"] (spF (gm K a) 2 (sem__law_is m))) : FnOk P w K mg base (L2.CX P w) (1 + m + 1) a.a__law_is a.d__law_is ["told", "due"] (spF (gm K a) 2 (sem__law_is (m + 1))) := by
  refine fn_ok (k := 1 + m) T.f__law_is sc__law_is (body__law_is (sem__law_is m)) 2 rfl 3 rfl fun cdv A outer sh H E hr => ?_
  have tk : Takes (cxOf (L2.CX P w) P w K mg base N__law_is "_law_is" (defScope s__law_is) a.a__law_is cdv A outer sh H E) (fun cls d _ H => E cls d H) := takes_of rfl rfl rfl rfl
  exact fss_cons (fs_if (ft_val (pt_val (fe_isiT rfl (pe_callB call_isiT (by rfl) T.b_isinstance (by decide +kernel) (pa_cons (fo_pk (pv 1)) (pa_cons (pe_tup (fa_cons (fo_val (fe_c (pe_bltn (v := .ty "tuple") (u := .type "tuple") (by rfl) T.b_tuple (by decide +kernel) rfl) (.ty "tuple") (fun _ => rfl))) (fa_cons (fo_val (fe_c (pe_bltn (v := .ty "list") (u := .type "list") (by rfl) T.b_list (by decide +kernel) rfl) (.ty "list") (fun _ => rfl))) (fa_nil)))) pa_nil)))))) (fss_cons (fs_if (PW.pt (fw_or (ft_op2 (op2_ne _) (pt_cmpR (op_neD hr.units) (fo_val (fe_opL (opL_isi _ T.insTy T.unl) (pe_callB call_isi (by rfl) T.b_isinstance (by decide +kernel) (fa_cons (fo_pk (pv 0)) (fa_cons (fo_val (fe_c (pe_bltn (v := .ty "tuple") (u := .type "tuple") (by rfl) T.b_tuple (by decide +kernel) rfl) (.ty "tuple") (fun _ => rfl))) (fa_nil)))))) (fo_val (fe_opL (opL_isi _ T.insTy T.unl) (pe_callB call_isi (by rfl) T.b_isinstance (by decide +kernel) (fa_cons (fo_pk (pv 1)) (fa_cons (fo_val (fe_c (pe_bltn (v := .ty "tuple") (u := .type "tuple") (by rfl) T.b_tuple (by decide +kernel) rfl) (.ty "tuple") (fun _ => rfl))) (fa_nil)))))) (nomark _))) (fw_or1 (ft_op2 (op2_ne _) (pt_cmpR (op_neD hr.units) (fo_val (fe_opL (opL_isi _ T.insTy T.unl) (pe_callB call_isi (by rfl) T.b_isinstance (by decide +kernel) (fa_cons (fo_pk (pv 0)) (fa_cons (fo_val (fe_c (pe_bltn (v := .ty "list") (u := .type "list") (by rfl) T.b_list (by decide +kernel) rfl) (.ty "list") (fun _ => rfl))) (fa_nil)))))) (fo_val (fe_opL (opL_isi _ T.insTy T.unl) (pe_callB call_isi (by rfl) T.b_isinstance (by decide +kernel) (fa_cons (fo_pk (pv 1)) (fa_cons (fo_val (fe_c (pe_bltn (v := .ty "list") (u := .type "list") (by rfl) T.b_list (by decide +kernel) rfl) (.ty "list") (fun _ => rfl))) (fa_nil)))))) (nomark _)))))) (fss_one (fs_ret (fe_c pe_bl (.bl false) (fun _ => rfl)))) (fss_nil)) (fss_one (fs_ret (fe_and (pe_and (fe_op2 (op2_eq _) (pe_cmpR (op_eqD hr.units) (fo_val (fe_opL (opL_len _) (pe_callB callr_len (by rfl) T.b_len (by decide +kernel) (fa_cons (fo_pk (pv 0)) (fa_nil))))) (fo_val (fe_opL (opL_len _) (pe_callB callr_len (by rfl) T.b_len (by decide +kernel) (fa_cons (fo_pk (pv 1)) (fa_nil))))) (nomark _))) (pe_one (fe_opL (opL_all _) (pe_callB (cr_all rfl) (by rfl) T.b_all (by decide +kernel) (fa_cons (fo_val (fe_fn (fn_lc (pe_lc (own := [("k", 2)]) rfl sc__law_is.nd (fi_range1 (pi_range1 (by rfl) T.b_range (fa_cons (fo_val (fe_opL (opL_len _) (pe_callB callr_len (by rfl) T.b_len (by decide +kernel) (fa_cons (fo_pk (pv 1)) (fa_nil))))) (fa_nil)))) (blkOk_by (N := N__law_is) (sc := defScope s__law_is) (by decide +kernel)) (fun _ _ _ _ _ => fgv_name (by decide) (pg_name (i := 2) sc__law_is.nd rfl (Or.inl rfl))) (fun _ _ _ _ _ => fts_nil) (fun _ _ _ _ _ => fe_call (pe_callS ih (hr.mono (by omega)) (by rfl) T.mg__law_is T.kp__law_is T.b__law_is (fun σ => passAt takes0 σ) (fa_cons (fo_val (fe_op2 (op2_ix _) (pe_ix ix_seq (fo_pk (pv 0)) (fo_pk (pv 2)) (fun _ _ => rfl)))) (fa_cons (fo_val (fe_op2 (op2_ix _) (pe_ix ix_seq (fo_pk (pv 1)) (fo_pk (pv 2)) (fun _ _ => rfl)))) (fa_nil)))) rfl))))) (fa_nil)))))))))) (fss_nil)) (fss_cons (fs_if (PW.pt (fw_or (ft_op2 (op2_isN _) (pt_cmpR op_isN (fo_pk (pv 1)) (fo_val (fe_c pe_non .non (fun _ => rfl))) (nomark _))) (fw_or1 (ft_op2 (op2_isN _) (pt_cmpR op_isN (fo_pk (pv 0)) (fo_val (fe_c pe_non .non (fun _ => rfl))) (nomark _)))))) (fss_one (fs_ret (fe_and (pe_and (fe_op2 (op2_isN _) (pe_cmpR op_isN (fo_pk (pv 1)) (fo_val (fe_c pe_non .non (fun _ => rfl))) (nomark _))) (pe_one (fe_op2 (op2_isN _) (pe_cmpR op_isN (fo_pk (pv 0)) (fo_val (fe_c pe_non .non (fun _ => rfl))) (nomark _)))))))) (fss_nil)) (fss_cons (fs_if (PW.pt (fw_or (ft_op2 (op2_ne _) (pt_cmpR (op_neD hr.units) (fo_val (fe_opL (opL_isi _ T.insTy T.unl) (pe_callB call_isi (by rfl) T.b_isinstance (by decide +kernel) (fa_cons (fo_pk (pv 0)) (fa_cons (fo_val (fe_c (pe_bltn (v := .ty "bool") (u := .type "bool") (by rfl) T.b_bool (by decide +kernel) rfl) (.ty "bool") (fun _ => rfl))) (fa_nil)))))) (fo_val (fe_opL (opL_isi _ T.insTy T.unl) (pe_callB call_isi (by rfl) T.b_isinstance (by decide +kernel) (fa_cons (fo_pk (pv 1)) (fa_cons (fo_val (fe_c (pe_bltn (v := .ty "bool") (u := .type "bool") (by rfl) T.b_bool (by decide +kernel) rfl) (.ty "bool") (fun _ => rfl))) (fa_nil)))))) (nomark _))) (fw_or1 (ft_op2 (op2_ne _) (pt_cmpR (op_neD hr.units) (fo_val (fe_opL (opL_isi _ T.insTy T.unl) (pe_callB call_isi (by rfl) T.b_isinstance (by decide +kernel) (fa_cons (fo_pk (pv 0)) (fa_cons (fo_val (fe_c (pe_bltn (v := .ty "int") (u := .type "int") (by rfl) T.b_int (by decide +kernel) rfl) (.ty "int") (fun _ => rfl))) (fa_nil)))))) (fo_val (fe_opL (opL_isi _ T.insTy T.unl) (pe_callB call_isi (by rfl) T.b_isinstance (by decide +kernel) (fa_cons (fo_pk (pv 1)) (fa_cons (fo_val (fe_c (pe_bltn (v := .ty "int") (u := .type "int") (by rfl) T.b_int (by decide +kernel) rfl) (.ty "int") (fun _ => rfl))) (fa_nil)))))) (nomark _)))))) (fss_one (fs_ret (fe_c pe_bl (.bl false) (fun _ => rfl)))) (fss_nil)) (fss_one (fs_ret (fe_and (pe_and (fe_op2 (op2_eq _) (pe_cmpR (op_eqD hr.units) (fo_val (fe_opL (opL_isi _ T.insTy T.unl) (pe_callB call_isi (by rfl) T.b_isinstance (by decide +kernel) (fa_cons (fo_pk (pv 0)) (fa_cons (fo_val (fe_c (pe_bltn (v := .ty "str") (u := .type "str") (by rfl) T.b_str (by decide +kernel) rfl) (.ty "str") (fun _ => rfl))) (fa_nil)))))) (fo_val (fe_opL (opL_isi _ T.insTy T.unl) (pe_callB call_isi (by rfl) T.b_isinstance (by decide +kernel) (fa_cons (fo_pk (pv 1)) (fa_cons (fo_val (fe_c (pe_bltn (v := .ty "str") (u := .type "str") (by rfl) T.b_str (by decide +kernel) rfl) (.ty "str") (fun _ => rfl))) (fa_nil)))))) (nomark _))) (pe_one (fe_op2 (op2_eq _) (pe_cmpR (op_eqD hr.units) (fo_pk (pv 0)) (fo_pk (pv 1)) (nomark _))))))))))
theorem ok__law_is (T : Txt K mg a) (base : Heap) : ∀ n, FnOk P w K mg base (L2.CX P w) (1 + n) a.a__law_is a.d__law_is ["told", "due"] (spF (gm K a) 2 (sem__law_is n))
  | 0 => fn0_ok 2 rfl
  | m + 1 => okS__law_is T base m (ok__law_is T base m)
theorem sc__law_is_number : FnScope N__law_is_number ["thing", "many"] (defScope s__law_is_number) := ⟨rfl, rfl, rfl, by decide +kernel, rfl, by decide +kernel, by decide +kernel⟩
theorem ok__law_is_number (T : Txt K mg a) (base : Heap) : FnOk P w K mg base (L2.CX P w) 1 a.a__law_is_number a.d__law_is_number ["thing", "many"] (spF (gm K a) 2 sem__law_is_number) := by
  refine fn_ok T.f__law_is_number sc__law_is_number body__law_is_number 2 rfl 2 rfl fun cdv A outer sh H E hr => ?_
  have tk : Takes (cxOf (L2.CX P w) P w K mg base N__law_is_number "_law_is_number" (defScope s__law_is_number) a.a__law_is_number cdv A outer sh H E) (fun cls d _ H => E cls d H) := takes_of rfl rfl rfl rfl
  exact fss_one (fs_ret (fe_and (pe_and (fe_opL (opL_isi _ T.insTy T.unl) (pe_callB call_isi (by rfl) T.b_isinstance (by decide +kernel) (fa_cons (fo_pk (pv 0)) (fa_cons (fo_val (fe_c (pe_bltn (v := .ty "int") (u := .type "int") (by rfl) T.b_int (by decide +kernel) rfl) (.ty "int") (fun _ => rfl))) (fa_nil))))) (fe_and (pe_and (fe_not (pe_not (fe_opL (opL_isi _ T.insTy T.unl) (pe_callB call_isi (by rfl) T.b_isinstance (by decide +kernel) (fa_cons (fo_pk (pv 0)) (fa_cons (fo_val (fe_c (pe_bltn (v := .ty "bool") (u := .type "bool") (by rfl) T.b_bool (by decide +kernel) rfl) (.ty "bool") (fun _ => rfl))) (fa_nil))))))) (pe_one (fe_chain (op2_le _) (op2_lt _) (pe_chain opr_le (opr_lt hr.units) (fo_val (fe_c pe_int (.int 0) (fun _ => rfl))) (fo_pk (pv 0)) (fo_pk (pv 1))))))))))
theorem sc__law_deep : FnScope N__law_deep ["kind"] (defScope s__law_deep) := ⟨rfl, rfl, rfl, by decide +kernel, rfl, by decide +kernel, by decide +kernel⟩
theorem ok__law_deep (T : Txt K mg a) (base : Heap) : FnOk P w K mg base (L2.CX P w) 1 a.a__law_deep a.d__law_deep ["kind"] (spF (gm K a) 1 sem__law_deep) := by
  refine fn_ok T.f__law_deep sc__law_deep body__law_deep 1 rfl 3 rfl fun cdv A outer sh H E hr => ?_
  have tk : Takes (cxOf (L2.CX P w) P w K mg base N__law_deep "_law_deep" (defScope s__law_deep) a.a__law_deep cdv A outer sh H E) (fun cls d _ H => E cls d H) := takes_of rfl rfl rfl rfl
  exact fss_cons (fs_set (ps_set (i := 1) sc__law_deep.nd rfl (Or.inl rfl) (fe_c pe_non .non (fun _ => rfl)))) (fss_cons (fs_for (ps_for (passes_of rfl) rfl (fi_range1 (pi_range1 (by rfl) T.b_range (fa_cons (fo_val (fe_c pe_int (.int 36) (fun _ => rfl))) (fa_nil)))) (fg_name (pg_name (i := 2) sc__law_deep.nd rfl (Or.inl rfl))) (fss_one (fs_set (ps_set (i := 1) sc__law_deep.nd rfl (Or.inl rfl) (fe_if (ft_op2 (op2_eq _) (pt_cmpR (op_eqD hr.units) (fo_pk (pv 0)) (fo_val (fe_c pe_int (.int 0) (fun _ => rfl))) (nomark _))) (fe_fn (fn_lst (pe_lst (fa_cons (fo_val (fe_var (pv 1))) (fa_nil))))) (fe_tup (pe_tup (fa_cons (fo_val (fe_var (pv 1))) (fa_nil)))))))))) (fss_one (fs_ret (fe_var (pv 1)))))
theorem sc_is_between : FnScope N_is_between ["thing", "low", "high"] (defScope s_is_between) := ⟨rfl, rfl, rfl, by decide +kernel, rfl, by decide +kernel, by decide +kernel⟩
theorem ok_is_between (T : Txt K mg a) (base : Heap) : FnOk P w K mg base (L2.CX P w) 2 a.a_is_between a.d_is_between ["thing", "low", "high"] (spF (gm K a) 3 sem_is_between) := by
  refine fn_ok T.f_is_between sc_is_between body_is_between 3 rfl 3 rfl fun cdv A outer sh H E hr => ?_
  have tk : Takes (cxOf (L2.CX P w) P w K mg base N_is_between "is_between" (defScope s_is_between) a.a_is_between cdv A outer sh H E) (fun cls d _ H => E cls d H) := takes_of rfl rfl rfl rfl
  exact fss_one (fs_ret (fe_and (pe_and (fe_call (pe_callS (ok_is_integer T base) (hr.mono (by decide)) (by rfl) T.mg_is_integer T.kp_is_integer T.b_is_integer (fun σ => passAt tk σ) (fa_cons (fo_val (fe_var (pv 0))) (fa_nil))) rfl) (pe_one (fe_chain (op2_le _) (op2_le _) (pe_chain opr_le opr_le (fo_pk (pv 1)) (fo_pk (pv 0)) (fo_pk (pv 2))))))))
theorem sc__law_some : FnScope N__law_some ["hand", "things"] (defScope s__law_some) := ⟨rfl, rfl, rfl, by decide +kernel, rfl, by decide +kernel, by decide +kernel⟩
theorem ok__law_some (T : Txt K mg a) (base : Heap) : FnOk P w K mg base (L2.CX P w) 2 a.a__law_some a.d__law_some ["hand", "things"] (spF (gm K a) 2 sem__law_some) := by
  refine fn_ok T.f__law_some sc__law_some body__law_some 2 rfl 2 rfl fun cdv A outer sh H E hr => ?_
  have tk : Takes (cxOf (L2.CX P w) P w K mg base N__law_some "_law_some" (defScope s__law_some) a.a__law_some cdv A outer sh H E) (fun cls d _ H => E cls d H) := takes_of rfl rfl rfl rfl
  exact fss_one (fs_ret (fe_op2 (op2_ix _) (pe_ix ix_seq (fo_pk (pv 1)) (fo_val (fe_call (pe_callS (ok__law_draw T base) (hr.mono (by decide)) (by rfl) T.mg__law_draw T.kp__law_draw T.b__law_draw (fun σ => passAt tk σ) (fa_cons (fo_pk (pv 0)) (fa_cons (fo_val (fe_opL (opL_len _) (pe_callB callr_len (by rfl) T.b_len (by decide +kernel) (fa_cons (fo_pk (pv 1)) (fa_nil))))) (fa_nil)))) rfl)) (fun _ _ => rfl))))
theorem sc__law_is_letter : FnScope N__law_is_letter ["many", "one"] (defScope s__law_is_letter) := ⟨rfl, rfl, rfl, by decide +kernel, rfl, by decide +kernel, by decide +kernel⟩
theorem ok__law_is_letter (T : Txt K mg a) (base : Heap) : FnOk P w K mg base (L2.CX P w) 2 a.a__law_is_letter a.d__law_is_letter ["many", "one"] (spF (gm K a) 2 sem__law_is_letter) := by
  refine fn_ok T.f__law_is_letter sc__law_is_letter body__law_is_letter 2 rfl 2 rfl fun cdv A outer sh H E hr => ?_
  have tk : Takes (cxOf (L2.CX P w) P w K mg base N__law_is_letter "_law_is_letter" (defScope s__law_is_letter) a.a__law_is_letter cdv A outer sh H E) (fun cls d _ H => E cls d H) := takes_of rfl rfl rfl rfl
  exact fss_cons (fs_if (PW.pt (fw_or (ft_not (ft_val (pt_val (fe_opL (opL_isi _ T.insTy T.unl) (pe_callB call_isi (by rfl) T.b_isinstance (by decide +kernel) (fa_cons (fo_pk (pv 1)) (fa_cons (fo_val (fe_c (pe_bltn (v := .ty "tuple") (u := .type "tuple") (by rfl) T.b_tuple (by decide +kernel) rfl) (.ty "tuple") (fun _ => rfl))) (fa_nil)))))))) (fw_or1 (ft_op2 (op2_ne _) (pt_cmpR (op_neD hr.units) (fo_val (fe_opL (opL_len _) (pe_callB callr_len (by rfl) T.b_len (by decide +kernel) (fa_cons (fo_pk (pv 1)) (fa_nil))))) (fo_val (fe_c pe_int (.int 3) (fun _ => rfl))) (nomark _)))))) (fss_one (fs_ret (fe_c pe_bl (.bl false) (fun _ => rfl)))) (fss_nil)) (fss_cons (fs_if (PW.pt (fw_or (ft_not (ft_val (pt_val (fe_call (pe_callS (ok__law_is_number T base) (hr.mono (by decide)) (by rfl) T.mg__law_is_number T.kp__law_is_number T.b__law_is_number (fun σ => passAt tk σ) (fa_cons (fo_val (fe_op2 (op2_ix _) (pe_ix ix_seq (fo_pk (pv 1)) (fo_val (fe_c pe_int (.int 0) (fun _ => rfl))) (fun _ _ => rfl)))) (fa_cons (fo_val (fe_var (pv 0))) (fa_nil)))) rfl)))) (fw_or1 (ft_not (ft_val (pt_val (fe_call (pe_callS (ok__law_is_number T base) (hr.mono (by decide)) (by rfl) T.mg__law_is_number T.kp__law_is_number T.b__law_is_number (fun σ => passAt tk σ) (fa_cons (fo_val (fe_op2 (op2_ix _) (pe_ix ix_seq (fo_pk (pv 1)) (fo_val (fe_c pe_int (.int 1) (fun _ => rfl))) (fun _ _ => rfl)))) (fa_cons (fo_val (fe_var (pv 0))) (fa_nil)))) rfl))))))) (fss_one (fs_ret (fe_c pe_bl (.bl false) (fun _ => rfl)))) (fss_nil)) (fss_one (fs_ret (fe_and (pe_and (fe_op2 (op2_ne _) (pe_cmpR (op_neD hr.units) (fo_val (fe_op2 (op2_ix _) (pe_ix ix_seq (fo_pk (pv 1)) (fo_val (fe_c pe_int (.int 0) (fun _ => rfl))) (fun _ _ => rfl)))) (fo_val (fe_op2 (op2_ix _) (pe_ix ix_seq (fo_pk (pv 1)) (fo_val (fe_c pe_int (.int 1) (fun _ => rfl))) (fun _ _ => rfl)))) (nomark _))) (pe_one (fe_call (pe_callS (ok__law_is_number T base) (hr.mono (by decide)) (by rfl) T.mg__law_is_number T.kp__law_is_number T.b__law_is_number (fun σ => passAt tk σ) (fa_cons (fo_val (fe_op2 (op2_ix _) (pe_ix ix_seq (fo_pk (pv 1)) (fo_val (fe_c pe_int (.int 2) (fun _ => rfl))) (fun _ _ => rfl)))) (fa_cons (fo_val (fe_c pe_int (.int 1000) (fun _ => rfl))) (fa_nil)))) rfl)))))))
theorem sc_is_lot : FnScope N_is_lot ["thing", "below"] (defScope s_is_lot) := ⟨rfl, rfl, rfl, by decide +kernel, rfl, by decide +kernel, by decide +kernel⟩
theorem ok_is_lot (T : Txt K mg a) (base : Heap) : FnOk P w K mg base (L2.CX P w) 3 a.a_is_lot a.d_is_lot ["thing", "below"] (spF (gm K a) 2 sem_is_lot) := by
  refine fn_ok T.f_is_lot sc_is_lot body_is_lot 2 rfl 4 rfl fun cdv A outer sh H E hr => ?_
  have tk : Takes (cxOf (L2.CX P w) P w K mg base N_is_lot "is_lot" (defScope s_is_lot) a.a_is_lot cdv A outer sh H E) (fun cls d _ H => E cls d H) := takes_of rfl rfl rfl rfl
  exact fss_cons (fs_if (PW.pt (fw_or (ft_not (ft_val (pt_val (fe_opL (opL_isi _ T.insTy T.unl) (pe_callB call_isi (by rfl) T.b_isinstance (by decide +kernel) (fa_cons (fo_pk (pv 0)) (fa_cons (fo_val (fe_c (pe_bltn (v := .ty "tuple") (u := .type "tuple") (by rfl) T.b_tuple (by decide +kernel) rfl) (.ty "tuple") (fun _ => rfl))) (fa_nil)))))))) (fw_or1 (ft_not (ft_val (pt_val (fe_opL (opL_all _) (pe_callB (cr_all rfl) (by rfl) T.b_all (by decide +kernel) (fa_cons (fo_val (fe_fn (fn_lc (pe_lc (own := [("one", 2)]) rfl sc_is_lot.nd (fi_any rfl (pi_any (fe_var (pv 0)))) (blkOk_by (N := N_is_lot) (sc := defScope s_is_lot) (by decide +kernel)) (fun _ _ _ _ _ => fgv_name (by decide) (pg_name (i := 2) sc_is_lot.nd rfl (Or.inl rfl))) (fun _ _ _ _ _ => fts_nil) (fun _ _ _ _ _ => fe_call (pe_callS (ok_is_between T base) (hr.mono (by decide)) (by rfl) T.mg_is_between T.kp_is_between T.b_is_between (fun σ => passAt takes0 σ) (fa_cons (fo_val (fe_var (pv 2))) (fa_cons (fo_val (fe_c pe_int (.int 0) (fun _ => rfl))) (fa_cons (fo_val (fe_op2 (op2_sub _) (pe_op op_sub (fo_pk (pv 1)) (fo_val (fe_c pe_int (.int 1) (fun _ => rfl)))))) (fa_nil))))) rfl))))) (fa_nil)))))))))) (fss_one (fs_ret (fe_c pe_bl (.bl false) (fun _ => rfl)))) (fss_nil)) (fss_one (fs_ret (fe_opL (opL_all _) (pe_callB (cr_all rfl) (by rfl) T.b_all (by decide +kernel) (fa_cons (fo_val (fe_fn (fn_lc (pe_lc (own := [("one", 2), ("other", 3)]) rfl sc_is_lot.nd (fi_zip rfl (RZ.pi_zipA (by rfl) T.b_zip (fa_cons (fo_val (fe_var (pv 0))) (fa_cons (fo_val (fe_sl rfl (pe_slice slr_all (fo_pk (pv 0)) (fp_some (fe_c pe_int (.int 1) (fun _ => rfl))) (fp_none)))) (fa_nil))))) (blkOk_by (N := N_is_lot) (sc := defScope s_is_lot) (by decide +kernel)) (fun _ _ _ _ _ => fgv_tup rfl (fgvs_cons (fgv_name (by decide) (pg_name (i := 2) sc_is_lot.nd rfl (Or.inl rfl))) (fgvs_cons (fgv_name (by decide) (pg_name (i := 3) sc_is_lot.nd rfl (Or.inl rfl))) (fgvs_nil))) rfl) (fun _ _ _ _ _ => fts_nil) (fun _ _ _ _ _ => fe_op2 (op2_lt _) (pe_cmpR (opr_lt hr.units) (fo_pk (pv 2)) (fo_pk (pv 3)) (nomark _))))))) (fa_nil))))))
theorem sc_is_letter : FnScope N_is_letter ["many", "thing"] (defScope s_is_letter) := ⟨rfl, rfl, rfl, by decide +kernel, rfl, by decide +kernel, by decide +kernel⟩
theorem ok_is_letter (T : Txt K mg a) (base : Heap) : FnOk P w K mg base (L2.CX P w) 3 a.a_is_letter a.d_is_letter ["many", "thing"] (spF (gm K a) 2 sem_is_letter) := by
  obtain ⟨u_MOST_BEAT, m_MOST_BEAT, r_MOST_BEAT⟩ := T.k_MOST_BEAT
  refine fn_ok T.f_is_letter sc_is_letter body_is_letter 2 rfl 2 rfl fun cdv A outer sh H E hr => ?_
  have tk : Takes (cxOf (L2.CX P w) P w K mg base N_is_letter "is_letter" (defScope s_is_letter) a.a_is_letter cdv A outer sh H E) (fun cls d _ H => E cls d H) := takes_of rfl rfl rfl rfl
  exact fss_cons (fs_if (PW.pt (fw_or (ft_not (ft_val (pt_val (fe_call (pe_callS (ok_is_sized T base) (hr.mono (by decide)) (by rfl) T.mg_is_sized T.kp_is_sized T.b_is_sized (fun σ => passAt tk σ) (fa_cons (fo_val (fe_var (pv 1))) (fa_cons (fo_val (fe_c pe_int (.int 3) (fun _ => rfl))) (fa_cons (fo_val (fe_c pe_int (.int 3) (fun _ => rfl))) (fa_nil))))) rfl)))) (fw_or (ft_not (ft_val (pt_val (fe_call (pe_callS (ok_is_between T base) (hr.mono (by decide)) (by rfl) T.mg_is_between T.kp_is_between T.b_is_between (fun σ => passAt tk σ) (fa_cons (fo_val (fe_op2 (op2_ix _) (pe_ix ix_seq (fo_pk (pv 1)) (fo_val (fe_c pe_int (.int 0) (fun _ => rfl))) (fun _ _ => rfl)))) (fa_cons (fo_val (fe_c pe_int (.int 0) (fun _ => rfl))) (fa_cons (fo_val (fe_op2 (op2_sub _) (pe_op op_sub (fo_pk (pv 0)) (fo_val (fe_c pe_int (.int 1) (fun _ => rfl)))))) (fa_nil))))) rfl)))) (fw_or1 (ft_not (ft_val (pt_val (fe_call (pe_callS (ok_is_between T base) (hr.mono (by decide)) (by rfl) T.mg_is_between T.kp_is_between T.b_is_between (fun σ => passAt tk σ) (fa_cons (fo_val (fe_op2 (op2_ix _) (pe_ix ix_seq (fo_pk (pv 1)) (fo_val (fe_c pe_int (.int 1) (fun _ => rfl))) (fun _ _ => rfl)))) (fa_cons (fo_val (fe_c pe_int (.int 0) (fun _ => rfl))) (fa_cons (fo_val (fe_op2 (op2_sub _) (pe_op op_sub (fo_pk (pv 0)) (fo_val (fe_c pe_int (.int 1) (fun _ => rfl)))))) (fa_nil))))) rfl)))))))) (fss_one (fs_ret (fe_c pe_bl (.bl false) (fun _ => rfl)))) (fss_nil)) (fss_one (fs_ret (fe_and (pe_and (fe_op2 (op2_ne _) (pe_cmpR (op_neD hr.units) (fo_val (fe_op2 (op2_ix _) (pe_ix ix_seq (fo_pk (pv 1)) (fo_val (fe_c pe_int (.int 0) (fun _ => rfl))) (fun _ _ => rfl)))) (fo_val (fe_op2 (op2_ix _) (pe_ix ix_seq (fo_pk (pv 1)) (fo_val (fe_c pe_int (.int 1) (fun _ => rfl))) (fun _ _ => rfl)))) (nomark _))) (pe_one (fe_call (pe_callS (ok_is_between T base) (hr.mono (by decide)) (by rfl) T.mg_is_between T.kp_is_between T.b_is_between (fun σ => passAt tk σ) (fa_cons (fo_val (fe_op2 (op2_ix _) (pe_ix ix_seq (fo_pk (pv 1)) (fo_val (fe_c pe_int (.int 2) (fun _ => rfl))) (fun _ _ => rfl)))) (fa_cons (fo_val (fe_c pe_int (.int 0) (fun _ => rfl))) (fa_cons (fo_val (fe_c (pe_glob (v := .int 999) (by rfl) m_MOST_BEAT r_MOST_BEAT) (.int 999) (fun _ => rfl))) (fa_nil))))) rfl))))))
theorem sc_are_ties : FnScope N_are_ties ["many", "thing"] (defScope s_are_ties) := ⟨rfl, rfl, rfl, by decide +kernel, rfl, by decide +kernel, by decide +kernel⟩
theorem ok_are_ties (T : Txt K mg a) (base : Heap) : FnOk P w K mg base (L2.CX P w) 3 a.a_are_ties a.d_are_ties ["many", "thing"] (spF (gm K a) 2 sem_are_ties) := by
  refine fn_ok T.f_are_ties sc_are_ties body_are_ties 2 rfl 6 rfl fun cdv A outer sh H E hr => ?_
  have tk : Takes (cxOf (L2.CX P w) P w K mg base N_are_ties "are_ties" (defScope s_are_ties) a.a_are_ties cdv A outer sh H E) (fun cls d _ H => E cls d H) := takes_of rfl rfl rfl rfl
  exact fss_cons (fs_if (PW.pt (fw_or (ft_not (ft_val (pt_val (fe_opL (opL_isi _ T.insTy T.unl) (pe_callB call_isi (by rfl) T.b_isinstance (by decide +kernel) (fa_cons (fo_pk (pv 1)) (fa_cons (fo_val (fe_c (pe_bltn (v := .ty "tuple") (u := .type "tuple") (by rfl) T.b_tuple (by decide +kernel) rfl) (.ty "tuple") (fun _ => rfl))) (fa_nil)))))))) (fw_or1 (ft_not (ft_val (pt_val (fe_opL (opL_all _) (pe_callB (cr_all rfl) (by rfl) T.b_all (by decide +kernel) (fa_cons (fo_val (fe_fn (fn_lc (pe_lc (own := [("tie", 2)]) rfl sc_are_ties.nd (fi_any rfl (pi_any (fe_var (pv 1)))) (blkOk_by (N := N_are_ties) (sc := defScope s_are_ties) (by decide +kernel)) (fun _ _ _ _ _ => fgv_name (by decide) (pg_name (i := 2) sc_are_ties.nd rfl (Or.inl rfl))) (fun _ _ _ _ _ => fts_nil) (fun _ _ _ _ _ => fe_call (pe_callS (ok_is_sized T base) (hr.mono (by decide)) (by rfl) T.mg_is_sized T.kp_is_sized T.b_is_sized (fun σ => passAt takes0 σ) (fa_cons (fo_val (fe_var (pv 2))) (fa_cons (fo_val (fe_c pe_int (.int 2) (fun _ => rfl))) (fa_cons (fo_val (fe_c pe_int (.int 2) (fun _ => rfl))) (fa_nil))))) rfl))))) (fa_nil)))))))))) (fss_one (fs_ret (fe_c pe_bl (.bl false) (fun _ => rfl)))) (fss_nil)) (fss_cons (fs_if (ft_not (ft_val (pt_val (fe_opL (opL_all _) (pe_callB (cr_all rfl) (by rfl) T.b_all (by decide +kernel) (fa_cons (fo_val (fe_fn (fn_lc2 (by decide) (pe_lc2 (own := [("tie", 2), ("house", 3)]) (vs1 := [3]) rfl sc_are_ties.nd (fi_any rfl (pi_any (fe_var (pv 1)))) (blkOk_by (N := N_are_ties) (sc := defScope s_are_ties) (by decide +kernel)) (by decide) (fun _ _ _ _ _ => fgv_name (by decide) (pg_name (i := 2) sc_are_ties.nd rfl (Or.inl rfl))) (fun _ _ _ _ _ => fts_nil) (fun _ _ _ _ _ => fi_any rfl (pi_any (fe_var (pv 2)))) (fun _ _ _ _ _ => fgv_name (by decide) (pg_name (i := 3) sc_are_ties.nd rfl (Or.inl rfl))) (fun _ _ _ _ _ => fts_nil) (fun _ _ _ _ _ => fe_call (pe_callS (ok_is_between T base) (hr.mono (by decide)) (by rfl) T.mg_is_between T.kp_is_between T.b_is_between (fun σ => passAt takes0 σ) (fa_cons (fo_val (fe_var (pv 3))) (fa_cons (fo_val (fe_c pe_int (.int 0) (fun _ => rfl))) (fa_cons (fo_val (fe_op2 (op2_sub _) (pe_op op_sub (fo_pk (pv 0)) (fo_val (fe_c pe_int (.int 1) (fun _ => rfl)))))) (fa_nil))))) rfl))))) (fa_nil))))))) (fss_one (fs_ret (fe_c pe_bl (.bl false) (fun _ => rfl)))) (fss_nil)) (fss_one (fs_ret (fe_and (pe_and (fe_opL (opL_all _) (pe_callB (cr_all rfl) (by rfl) T.b_all (by decide +kernel) (fa_cons (fo_val (fe_fn (fn_lc (pe_lc (own := [("tie", 2)]) rfl sc_are_ties.nd (fi_any rfl (pi_any (fe_var (pv 1)))) (blkOk_by (N := N_are_ties) (sc := defScope s_are_ties) (by decide +kernel)) (fun _ _ _ _ _ => fgv_name (by decide) (pg_name (i := 2) sc_are_ties.nd rfl (Or.inl rfl))) (fun _ _ _ _ _ => fts_nil) (fun _ _ _ _ _ => fe_op2 (op2_lt _) (pe_cmpR (opr_lt hr.units) (fo_val (fe_op2 (op2_ix _) (pe_ix ix_seq (fo_pk (pv 2)) (fo_val (fe_c pe_int (.int 0) (fun _ => rfl))) (fun _ _ => rfl)))) (fo_val (fe_op2 (op2_ix _) (pe_ix ix_seq (fo_pk (pv 2)) (fo_val (fe_c pe_int (.int 1) (fun _ => rfl))) (fun _ _ => rfl)))) (nomark _))))))) (fa_nil)))) (pe_one (fe_opL (opL_all _) (pe_callB (cr_all rfl) (by rfl) T.b_all (by decide +kernel) (fa_cons (fo_val (fe_fn (fn_lc (pe_lc (own := [("one", 4), ("other", 5)]) rfl sc_are_ties.nd (fi_zip rfl (RZ.pi_zipA (by rfl) T.b_zip (fa_cons (fo_val (fe_var (pv 1))) (fa_cons (fo_val (fe_sl rfl (pe_slice slr_all (fo_pk (pv 1)) (fp_some (fe_c pe_int (.int 1) (fun _ => rfl))) (fp_none)))) (fa_nil))))) (blkOk_by (N := N_are_ties) (sc := defScope s_are_ties) (by decide +kernel)) (fun _ _ _ _ _ => fgv_tup rfl (fgvs_cons (fgv_name (by decide) (pg_name (i := 4) sc_are_ties.nd rfl (Or.inl rfl))) (fgvs_cons (fgv_name (by decide) (pg_name (i := 5) sc_are_ties.nd rfl (Or.inl rfl))) (fgvs_nil))) rfl) (fun _ _ _ _ _ => fts_nil) (fun _ _ _ _ _ => fe_op2 (op2_lt _) (pe_cmpR (opr_lt hr.units) (fo_pk (pv 4)) (fo_pk (pv 5)) (nomark _))))))) (fa_nil))))))))))
theorem sc__law_letters : FnScope N__law_letters ["hand", "many", "most"] (defScope s__law_letters) := ⟨rfl, rfl, rfl, by decide +kernel, rfl, by decide +kernel, by decide +kernel⟩
theorem ok__law_letters (T : Txt K mg a) (base : Heap) : FnOk P w K mg base (L2.CX P w) 3 a.a__law_letters a.d__law_letters ["hand", "many", "most"] (spF (gm K a) 3 sem__law_letters) := by
  refine fn_ok T.f__law_letters sc__law_letters body__law_letters 3 rfl 8 rfl fun cdv A outer sh H E hr => ?_
  have tk : Takes (cxOf (L2.CX P w) P w K mg base N__law_letters "_law_letters" (defScope s__law_letters) a.a__law_letters cdv A outer sh H E) (fun cls d _ H => E cls d H) := takes_of rfl rfl rfl rfl
  exact fss_cons (fs_parNE (ps_par (i := 3) (j := 4) rfl sc__law_letters.nd rfl rfl (by decide) rfl rfl (pa_cons (fn_lst (pe_lst (fa_nil))) (pa_cons (fe_call (pe_callS (ok__law_some T base) (hr.mono (by decide)) (by rfl) T.mg__law_some T.kp__law_some T.b__law_some (fun σ => passAt tk σ) (fa_cons (fo_pk (pv 0)) (fa_cons (fo_val (fe_fn (fn_lst (pe_lst (fa_cons (fo_val (fe_c pe_int (.int 0) (fun _ => rfl))) (fa_cons (fo_val (fe_c pe_int (.int 0) (fun _ => rfl))) (fa_cons (fo_val (fe_c pe_int (.int 5) (fun _ => rfl))) (fa_cons (fo_val (fe_c pe_int (.int 990) (fun _ => rfl))) (fa_cons (fo_val (fe_c pe_int (.int 999) (fun _ => rfl))) (fa_nil)))))))))) (fa_nil)))) rfl) pa_nil)) (by rfl))) (fss_cons (fs_for (ps_for (passes_of rfl) rfl (fi_range1 (pi_range1 (by rfl) T.b_range (fa_cons (fo_val (fe_var (pv 2))) (fa_nil)))) (fg_name (pg_name (i := 5) sc__law_letters.nd rfl (Or.inl rfl))) (fss_cons (fs_set (ps_set (i := 4) sc__law_letters.nd rfl (Or.inl rfl) (fe_opL (opL_min2 _) (pe_callB (call_min2 rfl) (by rfl) T.b_min (by decide +kernel) (fa_cons (fo_val (fe_c pe_int (.int 999) (fun _ => rfl))) (fa_cons (fo_val (fe_op2 (op2_add _) (pe_op opr_add (fo_pk (pv 4)) (fo_val (fe_call (pe_callS (ok__law_some T base) (hr.mono (by decide)) (by rfl) T.mg__law_some T.kp__law_some T.b__law_some (fun σ => passAt tk σ) (fa_cons (fo_pk (pv 0)) (fa_cons (fo_val (fe_fn (fn_lst (pe_lst (fa_cons (fo_val (fe_c pe_int (.int 0) (fun _ => rfl))) (fa_cons (fo_val (fe_c pe_int (.int 0) (fun _ => rfl))) (fa_cons (fo_val (fe_c pe_int (.int 1) (fun _ => rfl))) (fa_cons (fo_val (fe_c pe_int (.int 1) (fun _ => rfl))) (fa_cons (fo_val (fe_c pe_int (.int 2) (fun _ => rfl))) (fa_cons (fo_val (fe_call (pe_callS (ok__law_draw T base) (hr.mono (by decide)) (by rfl) T.mg__law_draw T.kp__law_draw T.b__law_draw (fun σ => passAt tk σ) (fa_cons (fo_pk (pv 0)) (fa_cons (fo_val (fe_c pe_int (.int 60) (fun _ => rfl))) (fa_nil)))) rfl)) (fa_nil))))))))))) (fa_nil)))) rfl))))) (fa_nil))))))) (fss_cons (fs_set (ps_set (i := 6) sc__law_letters.nd rfl (Or.inl rfl) (fe_call (pe_callS (ok__law_draw T base) (hr.mono (by decide)) (by rfl) T.mg__law_draw T.kp__law_draw T.b__law_draw (fun σ => passAt tk σ) (fa_cons (fo_pk (pv 0)) (fa_cons (fo_val (fe_var (pv 1))) (fa_nil)))) rfl))) (fss_cons (fs_set (ps_set (i := 7) sc__law_letters.nd rfl (Or.inl rfl) (fe_tup (pe_tup (fa_cons (fo_val (fe_var (pv 6))) (fa_cons (fo_val (fe_op2 (op2_mod _) (pe_op op_mod (fo_val (fe_opL (opL_int _) (pe_callTy call_int1 (by rfl) T.b_int (by decide +kernel) (fa_cons (fo_val (fe_op2 (op2_add _) (pe_op opr_add (fo_val (fe_op2 (op2_add _) (pe_op opr_add (fo_pk (pv 6)) (fo_val (fe_c pe_int (.int 1) (fun _ => rfl)))))) (fo_val (fe_call (pe_callS (ok__law_draw T base) (hr.mono (by decide)) (by rfl) T.mg__law_draw T.kp__law_draw T.b__law_draw (fun σ => passAt tk σ) (fa_cons (fo_pk (pv 0)) (fa_cons (fo_val (fe_op2 (op2_sub _) (pe_op op_sub (fo_pk (pv 1)) (fo_val (fe_c pe_int (.int 1) (fun _ => rfl)))))) (fa_nil)))) rfl))))) (fa_nil))))) (fo_pk (pv 1))))) (fa_cons (fo_val (fe_var (pv 4))) (fa_nil)))))))) (fss_one (fs_if (ft_op2 (op2_notIn _) (pt_cmpR (opr_notIn (units65 hr)) (fo_pk (pv 7)) (fo_pk (pv 3)) (by rfl))) (fss_one (fs_expr (ps_expr (fe_mt mtok_append (pe_bm PySem.F.plainAttrs_list PySem.F.slot_list_append PySem.F.type_list_append mt_append (fo_pk (pv 3)) (fa_cons (fo_val (fe_var (pv 7))) (fa_nil))))))) (fss_nil)))))))) (fss_one (fs_ret (fe_opL (opL_tuple _) (pe_callTy call_tuple_of (by rfl) T.b_tuple (by decide +kernel) (fa_cons (fo_pk (pv 3)) (fa_nil)))))))
theorem sc__law_part : FnScope N__law_part ["many", "letters"] (defScope s__law_part) := ⟨rfl, rfl, rfl, by decide +kernel, rfl, by decide +kernel, by decide +kernel⟩
theorem ok__law_part (T : Txt K mg a) (base : Heap) : FnOk P w K mg base (L2.CX P w) 3 a.a__law_part a.d__law_part ["many", "letters"] (spF (gm K a) 2 sem__law_part) := by
  refine fn_ok T.f__law_part sc__law_part body__law_part 2 rfl 3 rfl fun cdv A outer sh H E hr => ?_
  have tk : Takes (cxOf (L2.CX P w) P w K mg base N__law_part "_law_part" (defScope s__law_part) a.a__law_part cdv A outer sh H E) (fun cls d _ H => E cls d H) := takes_of rfl rfl rfl rfl
  exact fss_cons (fs_if (PW.pt (fw_or (ft_not (ft_val (pt_val (fe_call (pe_callS (ok__law_is_number T base) (hr.mono (by decide)) (by rfl) T.mg__law_is_number T.kp__law_is_number T.b__law_is_number (fun σ => passAt tk σ) (fa_cons (fo_val (fe_var (pv 0))) (fa_cons (fo_val (fe_c pe_int (.int 9) (fun _ => rfl))) (fa_nil)))) rfl)))) (fw_or1 (ft_op2 (op2_lt _) (pt_cmpR (opr_lt hr.units) (fo_pk (pv 0)) (fo_val (fe_c pe_int (.int 2) (fun _ => rfl))) (nomark _)))))) (fss_one (fs_ret (fe_c pe_str (.str "many") (fun _ => rfl)))) (fss_nil)) (fss_cons (fs_if (PW.pt (fw_or (ft_not (ft_val (pt_val (fe_opL (opL_isi _ T.insTy T.unl) (pe_callB call_isi (by rfl) T.b_isinstance (by decide +kernel) (fa_cons (fo_pk (pv 1)) (fa_cons (fo_val (fe_c (pe_bltn (v := .ty "tuple") (u := .type "tuple") (by rfl) T.b_tuple (by decide +kernel) rfl) (.ty "tuple") (fun _ => rfl))) (fa_nil)))))))) (fw_or1 (ft_op2 (op2_gt _) (pt_cmpR opr_gt (fo_val (fe_opL (opL_len _) (pe_callB callr_len (by rfl) T.b_len (by decide +kernel) (fa_cons (fo_pk (pv 1)) (fa_nil))))) (fo_val (fe_c pe_int (.int 60) (fun _ => rfl))) (nomark _)))))) (fss_one (fs_ret (fe_c pe_str (.str "letters") (fun _ => rfl)))) (fss_nil)) (fss_cons (fs_for (ps_for (passes_of rfl) rfl (fi_range1 (pi_range1 (by rfl) T.b_range (fa_cons (fo_val (fe_opL (opL_len _) (pe_callB callr_len (by rfl) T.b_len (by decide +kernel) (fa_cons (fo_pk (pv 1)) (fa_nil))))) (fa_nil)))) (fg_name (pg_name (i := 2) sc__law_part.nd rfl (Or.inl rfl))) (fss_cons (fs_if (ft_not (ft_val (pt_val (fe_call (pe_callS (ok__law_is_letter T base) (hr.mono (by decide)) (by rfl) T.mg__law_is_letter T.kp__law_is_letter T.b__law_is_letter (fun σ => passAt tk σ) (fa_cons (fo_val (fe_var (pv 0))) (fa_cons (fo_val (fe_op2 (op2_ix _) (pe_ix ix_seq (fo_pk (pv 1)) (fo_pk (pv 2)) (fun _ _ => rfl)))) (fa_nil)))) rfl)))) (fss_one (fs_ret (fe_var (pv 2)))) (fss_nil)) (fss_one (fs_if (PW.pt (fw_or (PW.pt (fw_and (ft_op2 (op2_gt _) (pt_cmpR opr_gt (fo_pk (pv 2)) (fo_val (fe_c pe_int (.int 0) (fun _ => rfl))) (nomark _))) (fw_and1 (ft_op2 (op2_lt _) (pt_cmpR (opr_lt hr.units) (fo_val (fe_op2 (op2_ix _) (pe_ix ix_seq (fo_val (fe_op2 (op2_ix _) (pe_ix ix_seq (fo_pk (pv 1)) (fo_pk (pv 2)) (fun _ _ => rfl)))) (fo_val (fe_c pe_int (.int 2) (fun _ => rfl))) (fun _ _ => rfl)))) (fo_val (fe_op2 (op2_ix _) (pe_ix ix_seq (fo_val (fe_op2 (op2_ix _) (pe_ix ix_seq (fo_pk (pv 1)) (fo_val (fe_op2 (op2_sub _) (pe_op op_sub (fo_pk (pv 2)) (fo_val (fe_c pe_int (.int 1) (fun _ => rfl)))))) (fun _ _ => rfl)))) (fo_val (fe_c pe_int (.int 2) (fun _ => rfl))) (fun _ _ => rfl)))) (nomark _)))))) (fw_or1 (ft_op2 (op2_in _) (pt_cmpR (opr_in (units65 hr)) (fo_val (fe_op2 (op2_ix _) (pe_ix ix_seq (fo_pk (pv 1)) (fo_pk (pv 2)) (fun _ _ => rfl)))) (fo_val (fe_sl rfl (pe_slice slr_all (fo_pk (pv 1)) (fp_none) (fp_some (fe_var (pv 2)))))) (by rfl)))))) (fss_one (fs_ret (fe_var (pv 2)))) (fss_nil)))))) (fss_one (fs_ret (fe_c pe_str (.str "let") (fun _ => rfl))))))
theorem sc__law_spoilt : FnScope N__law_spoilt ["hand", "many", "letters"] (defScope s__law_spoilt) := ⟨rfl, rfl, rfl, by decide +kernel, rfl, by decide +kernel, by decide +kernel⟩
theorem ok__law_spoilt (T : Txt K mg a) (base : Heap) : FnOk P w K mg base (L2.CX P w) 3 a.a__law_spoilt a.d__law_spoilt ["hand", "many", "letters"] (spF (gm K a) 3 sem__law_spoilt) := by
  refine fn_ok T.f__law_spoilt sc__law_spoilt body__law_spoilt 3 rfl 10 rfl fun cdv A outer sh H E hr => ?_
  have tk : Takes (cxOf (L2.CX P w) P w K mg base N__law_spoilt "_law_spoilt" (defScope s__law_spoilt) a.a__law_spoilt cdv A outer sh H E) (fun cls d _ H => E cls d H) := takes_of rfl rfl rfl rfl
  exact fss_cons (fs_par3N (ps_par3 (i := 3) (j := 4) (l := 5) rfl sc__law_spoilt.nd rfl rfl rfl (by decide) (by decide) (by decide) rfl rfl rfl (pa_cons (fn_opL (opN_list _) (pe_callTy call_list_of (by rfl) T.b_list (by decide +kernel) (fa_cons (fo_pk (pv 2)) (fa_nil)))) (pa_cons (fe_call (pe_callS (ok__law_draw T base) (hr.mono (by decide)) (by rfl) T.mg__law_draw T.kp__law_draw T.b__law_draw (fun σ => passAt tk σ) (fa_cons (fo_pk (pv 0)) (fa_cons (fo_val (fe_c pe_int (.int 8) (fun _ => rfl))) (fa_nil)))) rfl) (pa_cons (fe_call (pe_callS (ok__law_draw T base) (hr.mono (by decide)) (by rfl) T.mg__law_draw T.kp__law_draw T.b__law_draw (fun σ => passAt tk σ) (fa_cons (fo_pk (pv 0)) (fa_cons (fo_val (fe_opL (opL_len _) (pe_callB callr_len (by rfl) T.b_len (by decide +kernel) (fa_cons (fo_pk (pv 2)) (fa_nil))))) (fa_nil)))) rfl) pa_nil))) (by rfl))) (fss_cons (fs_set (ps_set (i := 6) sc__law_spoilt.nd rfl (Or.inl rfl) (fe_op2 (op2_ix _) (pe_ix ix_seq (fo_pk (pv 3)) (fo_pk (pv 5)) (fun _ _ => rfl))))) (fss_cons (fs_if (ft_op2 (op2_eq _) (pt_cmpR (op_eqD hr.units) (fo_pk (pv 4)) (fo_val (fe_c pe_int (.int 0) (fun _ => rfl))) (nomark _))) (fss_one (fs_setIx (ps_asg (fe_call (pe_callS (ok__law_some T base) (hr.mono (by decide)) (by rfl) T.mg__law_some T.kp__law_some T.b__law_some (fun σ => passAt tk σ) (fa_cons (fo_pk (pv 0)) (fa_cons (fo_val (fe_fn (fn_lst (pe_lst (fa_cons (fo_val (fe_c pe_non .non (fun _ => rfl))) (fa_cons (fo_val (fe_c pe_int (.int 0) (fun _ => rfl))) (fa_cons (fo_val (fe_c pe_str (.str "abc") (fun _ => rfl))) (fa_cons (fo_val (fe_fn (fn_lst (pe_lst (fa_nil))))) (fa_cons (fo_val (fe_tup (pe_tup (fa_nil)))) (fa_cons (fo_val (fe_tup (pe_tup (fa_cons (fo_val (fe_c pe_int (.int 0) (fun _ => rfl))) (fa_cons (fo_val (fe_c pe_int (.int 1) (fun _ => rfl))) (fa_nil)))))) (fa_cons (fo_val (fe_tup (pe_tup (fa_cons (fo_val (fe_c pe_int (.int 0) (fun _ => rfl))) (fa_cons (fo_val (fe_c pe_int (.int 1) (fun _ => rfl))) (fa_cons (fo_val (fe_c pe_int (.int 0) (fun _ => rfl))) (fa_cons (fo_val (fe_c pe_int (.int 0) (fun _ => rfl))) (fa_nil)))))))) (fa_cons (fo_val (fe_call (pe_callS (ok__law_deep T base) (hr.mono (by decide)) (by rfl) T.mg__law_deep T.kp__law_deep T.b__law_deep (fun σ => passAt tk σ) (fa_cons (fo_val (fe_c pe_int (.int 1) (fun _ => rfl))) (fa_nil))) rfl)) (fa_cons (fo_val (fe_call (pe_callS (ok__law_deep T base) (hr.mono (by decide)) (by rfl) T.mg__law_deep T.kp__law_deep T.b__law_deep (fun σ => passAt tk σ) (fa_cons (fo_val (fe_c pe_int (.int 0) (fun _ => rfl))) (fa_nil))) rfl)) (fa_cons (fo_val (fe_emp pe_dnewK)) (fa_nil))))))))))))))) (fa_nil)))) rfl) (pg_sub (fo_pk (pv 3)) (fe_var (pv 5)) set_list)))) (fss_one (fs_if (ft_op2 (op2_eq _) (pt_cmpR (op_eqD hr.units) (fo_pk (pv 4)) (fo_val (fe_c pe_int (.int 1) (fun _ => rfl))) (nomark _))) (fss_one (fs_expr (ps_expr (fe_mt mtok_insert (pe_bm PySem.F.plainAttrs_list PySem.F.slot_list_insert PySem.F.type_list_insert mt_insert (fo_pk (pv 3)) (fa_cons (fo_val (fe_call (pe_callS (ok__law_draw T base) (hr.mono (by decide)) (by rfl) T.mg__law_draw T.kp__law_draw T.b__law_draw (fun σ => passAt tk σ) (fa_cons (fo_pk (pv 0)) (fa_cons (fo_val (fe_op2 (op2_add _) (pe_op opr_add (fo_val (fe_opL (opL_len _) (pe_callB callr_len (by rfl) T.b_len (by decide +kernel) (fa_cons (fo_pk (pv 3)) (fa_nil))))) (fo_val (fe_c pe_int (.int 1) (fun _ => rfl)))))) (fa_nil)))) rfl)) (fa_cons (fo_val (fe_var (pv 6))) (fa_nil)))))))) (fss_one (fs_if (ft_op2 (op2_eq _) (pt_cmpR (op_eqD hr.units) (fo_pk (pv 4)) (fo_val (fe_c pe_int (.int 2) (fun _ => rfl))) (nomark _))) (fss_cons (fs_expr (ps_expr (fe_mt mtok_popAt (pe_bm PySem.F.plainAttrs_list PySem.F.slot_list_pop PySem.F.type_list_pop mt_popAt (fo_pk (pv 3)) (fa_cons (fo_val (fe_var (pv 5))) (fa_nil)))))) (fss_one (fs_expr (ps_expr (fe_mt mtok_insert (pe_bm PySem.F.plainAttrs_list PySem.F.slot_list_insert PySem.F.type_list_insert mt_insert (fo_pk (pv 3)) (fa_cons (fo_val (fe_call (pe_callS (ok__law_draw T base) (hr.mono (by decide)) (by rfl) T.mg__law_draw T.kp__law_draw T.b__law_draw (fun σ => passAt tk σ) (fa_cons (fo_pk (pv 0)) (fa_cons (fo_val (fe_op2 (op2_add _) (pe_op opr_add (fo_val (fe_opL (opL_len _) (pe_callB callr_len (by rfl) T.b_len (by decide +kernel) (fa_cons (fo_pk (pv 3)) (fa_nil))))) (fo_val (fe_c pe_int (.int 1) (fun _ => rfl)))))) (fa_nil)))) rfl)) (fa_cons (fo_val (fe_var (pv 6))) (fa_nil))))))))) (fss_one (fs_if (PW.pt (fw_and (ft_val (pt_val (fe_opL (opL_isi _ T.insTy T.unl) (pe_callB call_isi (by rfl) T.b_isinstance (by decide +kernel) (fa_cons (fo_pk (pv 6)) (fa_cons (fo_val (fe_c (pe_bltn (v := .ty "tuple") (u := .type "tuple") (by rfl) T.b_tuple (by decide +kernel) rfl) (.ty "tuple") (fun _ => rfl))) (fa_nil))))))) (fw_and1 (ft_op2 (op2_eq _) (pt_cmpR (op_eqD hr.units) (fo_val (fe_opL (opL_len _) (pe_callB callr_len (by rfl) T.b_len (by decide +kernel) (fa_cons (fo_pk (pv 6)) (fa_nil))))) (fo_val (fe_c pe_int (.int 3) (fun _ => rfl))) (nomark _)))))) (fss_cons (fs_set (ps_set (i := 7) sc__law_spoilt.nd rfl (Or.inl rfl) (fe_fn (fn_lst (pe_lst (fa_cons (fo_val (fe_neg (pe_un un_neg (fe_c pe_int (.int 1) (fun _ => rfl))))) (fa_cons (fo_val (fe_c pe_int (.int 1) (fun _ => rfl))) (fa_cons (fo_val (fe_c pe_int (.int 0) (fun _ => rfl))) (fa_cons (fo_val (fe_c pe_bl (.bl true) (fun _ => rfl))) (fa_cons (fo_val (fe_c pe_bl (.bl false) (fun _ => rfl))) (fa_cons (fo_val (fe_c pe_non .non (fun _ => rfl))) (fa_cons (fo_val (fe_c pe_str (.str "0") (fun _ => rfl))) (fa_cons (fo_val (fe_var (pv 1))) (fa_cons (fo_val (fe_op2 (op2_sub _) (pe_op op_sub (fo_pk (pv 1)) (fo_val (fe_c pe_int (.int 1) (fun _ => rfl)))))) (fa_cons (fo_val (fe_c pe_int (.int 999) (fun _ => rfl))) (fa_cons (fo_val (fe_c pe_int (.int 1000) (fun _ => rfl))) (fa_cons (fo_val (fe_op2 (op2_pow _) (pe_op op_pow (fo_val (fe_c pe_int (.int 10) (fun _ => rfl))) (fo_val (fe_c pe_int (.int 19) (fun _ => rfl)))))) (fa_cons (fo_val (fe_tup (pe_tup (fa_cons (fo_val (fe_c pe_int (.int 0) (fun _ => rfl))) (fa_nil))))) (fa_cons (fo_val (fe_fn (fn_lst (pe_lst (fa_cons (fo_val (fe_c pe_int (.int 0) (fun _ => rfl))) (fa_nil)))))) (fa_cons (fo_val (fe_op2 (op2_ix _) (pe_ix ix_seq (fo_pk (pv 6)) (fo_val (fe_c pe_int (.int 0) (fun _ => rfl))) (fun _ _ => rfl)))) (fa_cons (fo_val (fe_op2 (op2_ix _) (pe_ix ix_seq (fo_pk (pv 6)) (fo_val (fe_c pe_int (.int 1) (fun _ => rfl))) (fun _ _ => rfl)))) (fa_cons (fo_val (fe_op2 (op2_ix _) (pe_ix ix_seq (fo_pk (pv 6)) (fo_val (fe_c pe_int (.int 2) (fun _ => rfl))) (fun _ _ => rfl)))) (fa_nil))))))))))))))))))))))) (fss_cons (fs_set (ps_set (i := 8) sc__law_spoilt.nd rfl (Or.inl rfl) (fe_call (pe_callS (ok__law_draw T base) (hr.mono (by decide)) (by rfl) T.mg__law_draw T.kp__law_draw T.b__law_draw (fun σ => passAt tk σ) (fa_cons (fo_pk (pv 0)) (fa_cons (fo_val (fe_c pe_int (.int 3) (fun _ => rfl))) (fa_nil)))) rfl))) (fss_cons (fs_set (ps_set (i := 9) sc__law_spoilt.nd rfl (Or.inl rfl) (fe_call (pe_callS (ok__law_some T base) (hr.mono (by decide)) (by rfl) T.mg__law_some T.kp__law_some T.b__law_some (fun σ => passAt tk σ) (fa_cons (fo_pk (pv 0)) (fa_cons (fo_val (fe_var (pv 7))) (fa_nil)))) rfl))) (fss_cons (fs_if (PW.pt (fw_and (ft_op2 (op2_eq _) (pt_cmpR (op_eqD hr.units) (fo_pk (pv 4)) (fo_val (fe_c pe_int (.int 3) (fun _ => rfl))) (nomark _))) (fw_and1 (ft_val (pt_val (fe_call (pe_callS (ok__law_is_number T base) (hr.mono (by decide)) (by rfl) T.mg__law_is_number T.kp__law_is_number T.b__law_is_number (fun σ => passAt tk σ) (fa_cons (fo_val (fe_op2 (op2_ix _) (pe_ix ix_seq (fo_pk (pv 6)) (fo_val (fe_c pe_int (.int 2) (fun _ => rfl))) (fun _ _ => rfl)))) (fa_cons (fo_val (fe_c pe_int (.int 10000) (fun _ => rfl))) (fa_nil)))) rfl)))))) (fss_one (fs_par (ps_par (i := 8) (j := 9) rfl sc__law_spoilt.nd rfl rfl (by decide) rfl rfl (pa_cons (fe_c pe_int (.int 2) (fun _ => rfl)) (pa_cons (fe_op2 (op2_add _) (pe_op opr_add (fo_val (fe_op2 (op2_ix _) (pe_ix ix_seq (fo_pk (pv 6)) (fo_val (fe_c pe_int (.int 2) (fun _ => rfl))) (fun _ _ => rfl)))) (fo_val (fe_call (pe_callS (ok__law_some T base) (hr.mono (by decide)) (by rfl) T.mg__law_some T.kp__law_some T.b__law_some (fun σ => passAt tk σ) (fa_cons (fo_pk (pv 0)) (fa_cons (fo_val (fe_fn (fn_lst (pe_lst (fa_cons (fo_val (fe_neg (pe_un un_neg (fe_c pe_int (.int 1) (fun _ => rfl))))) (fa_cons (fo_val (fe_c pe_int (.int 1) (fun _ => rfl))) (fa_cons (fo_val (fe_c pe_int (.int 30) (fun _ => rfl))) (fa_cons (fo_val (fe_neg (pe_un un_neg (fe_c pe_int (.int 30) (fun _ => rfl))))) (fa_nil))))))))) (fa_nil)))) rfl)))) pa_nil)) (by rfl)))) (fss_nil)) (fss_cons (fs_setIx (ps_asg (fe_op2 (op2_add _) (pe_op opr_add (fo_val (fe_op2 (op2_add _) (pe_op opr_add (fo_val (fe_sl rfl (pe_slice slr_all (fo_pk (pv 6)) (fp_none) (fp_some (fe_var (pv 8)))))) (fo_val (fe_tup (pe_tup (fa_cons (fo_val (fe_var (pv 9))) (fa_nil)))))))) (fo_val (fe_sl rfl (pe_slice slr_all (fo_pk (pv 6)) (fp_some (fe_op2 (op2_add _) (pe_op opr_add (fo_pk (pv 8)) (fo_val (fe_c pe_int (.int 1) (fun _ => rfl)))))) (fp_none)))))) (pg_sub (fo_pk (pv 3)) (fe_var (pv 5)) set_list))) (fss_one (fs_if (ft_op2 (op2_eq _) (pt_cmpR (op_eqD hr.units) (fo_pk (pv 4)) (fo_val (fe_c pe_int (.int 4) (fun _ => rfl))) (nomark _))) (fss_one (fs_setIx (ps_asg (fe_fn (fn_opL (opN_list _) (pe_callTy call_list_of (by rfl) T.b_list (by decide +kernel) (fa_cons (fo_pk (pv 6)) (fa_nil))))) (pg_sub (fo_pk (pv 3)) (fe_var (pv 5)) set_list)))) (fss_nil)))))))) (fss_nil)))))))) (fss_one (fs_ret (fe_opL (opL_tuple _) (pe_callTy call_tuple_of (by rfl) T.b_tuple (by decide +kernel) (fa_cons (fo_pk (pv 3)) (fa_nil))))))))
theorem sc__law_full : FnScope N__law_full ["hand", "many"] (defScope s__law_full) := ⟨rfl, rfl, rfl, by decide +kernel, rfl, by decide +kernel, by decide +kernel⟩
theorem ok__law_full (T : Txt K mg a) (base : Heap) : FnOk P w K mg base (L2.CX P w) 3 a.a__law_full a.d__law_full ["hand", "many"] (spF (gm K a) 2 sem__law_full) := by
  refine fn_ok T.f__law_full sc__law_full body__law_full 2 rfl 10 rfl fun cdv A outer sh H E hr => ?_
  have tk : Takes (cxOf (L2.CX P w) P w K mg base N__law_full "_law_full" (defScope s__law_full) a.a__law_full cdv A outer sh H E) (fun cls d _ H => E cls d H) := takes_of rfl rfl rfl rfl
  exact fss_cons (fs_set (ps_set (i := 2) sc__law_full.nd rfl (Or.inl rfl) (fe_opL (opL_tuple _) (pe_callTy call_tuple_of (by rfl) T.b_tuple (by decide +kernel) (fa_cons (fo_val (fe_fn (fn_lc (pe_lc (own := [("k", 6)]) rfl sc__law_full.nd (fi_range1 (pi_range1 (by rfl) T.b_range (fa_cons (fo_val (fe_op2 (op2_sub _) (pe_op op_sub (fo_val (fe_op2 (op2_mul _) (pe_op opr_mul (fo_val (fe_c pe_int (.int 2) (fun _ => rfl))) (fo_pk (pv 1))))) (fo_val (fe_c pe_int (.int 2) (fun _ => rfl)))))) (fa_nil)))) (blkOk_by (N := N__law_full) (sc := defScope s__law_full) (by decide +kernel)) (fun _ _ _ _ _ => fgv_name (by decide) (pg_name (i := 6) sc__law_full.nd rfl (Or.inl rfl))) (fun _ _ _ _ _ => fts_nil) (fun _ _ _ _ _ => fe_tup (pe_tup (fa_cons (fo_val (fe_op2 (op2_add _) (pe_op opr_add (fo_val (fe_op2 (op2_div _) (pe_op op_fdiv (fo_pk (pv 6)) (fo_val (fe_c pe_int (.int 2) (fun _ => rfl)))))) (fo_val (fe_op2 (op2_mod _) (pe_op op_mod (fo_val (fe_opL (opL_int _) (pe_callTy call_int1 (by rfl) T.b_int (by decide +kernel) (fa_cons (fo_pk (pv 6)) (fa_nil))))) (fo_val (fe_c pe_int (.int 2) (fun _ => rfl))))))))) (fa_cons (fo_val (fe_op2 (op2_sub _) (pe_op op_sub (fo_val (fe_op2 (op2_add _) (pe_op opr_add (fo_val (fe_op2 (op2_div _) (pe_op op_fdiv (fo_pk (pv 6)) (fo_val (fe_c pe_int (.int 2) (fun _ => rfl)))))) (fo_val (fe_c pe_int (.int 1) (fun _ => rfl)))))) (fo_val (fe_op2 (op2_mod _) (pe_op op_mod (fo_val (fe_opL (opL_int _) (pe_callTy call_int1 (by rfl) T.b_int (by decide +kernel) (fa_cons (fo_pk (pv 6)) (fa_nil))))) (fo_val (fe_c pe_int (.int 2) (fun _ => rfl))))))))) (fa_cons (fo_val (fe_c pe_int (.int 0) (fun _ => rfl))) (fa_nil)))))))))) (fa_nil)))))) (fss_cons (fs_asg (ps_asg (fe_tup (pe_tup (fa_cons (fo_val (fe_tup (pe_tup (fa_nil)))) (fa_cons (fo_val (fe_call (pe_callS (ok__law_draw T base) (hr.mono (by decide)) (by rfl) T.mg__law_draw T.kp__law_draw T.b__law_draw (fun σ => passAt tk σ) (fa_cons (fo_pk (pv 0)) (fa_cons (fo_val (fe_c pe_int (.int 900) (fun _ => rfl))) (fa_nil)))) rfl)) (fa_nil))))) (fg_tup rfl (fgs_cons (fg_name (pg_name (i := 3) sc__law_full.nd rfl (Or.inl rfl))) (fgs_cons (fg_name (pg_name (i := 4) sc__law_full.nd rfl (Or.inr rfl))) (fgs_nil))) rfl))) (fss_cons (fs_for (ps_for (passes_of rfl) rfl (fi_range1 (pi_range1 (by rfl) T.b_range (fa_cons (fo_val (fe_c pe_int (.int 31) (fun _ => rfl))) (fa_nil)))) (fg_name (pg_name (i := 5) sc__law_full.nd rfl (Or.inr rfl))) (fss_one (fs_set (ps_set (i := 3) sc__law_full.nd rfl (Or.inl rfl) (fe_op2 (op2_add _) (pe_op opr_add (fo_pk (pv 3)) (fo_val (fe_opL (opL_tuple _) (pe_callTy call_tuple_of (by rfl) T.b_tuple (by decide +kernel) (fa_cons (fo_val (fe_fn (fn_lc (pe_lc (own := [("one", 7), ("other", 8), ("old", 9)]) rfl sc__law_full.nd (fi_any rfl (pi_any (fe_var (pv 2)))) (blkOk_by (N := N__law_full) (sc := defScope s__law_full) (by decide +kernel)) (fun _ _ _ _ _ => fgv_tup rfl (fgvs_cons (fgv_name (by decide) (pg_name (i := 7) sc__law_full.nd rfl (Or.inl rfl))) (fgvs_cons (fgv_name (by decide) (pg_name (i := 8) sc__law_full.nd rfl (Or.inl rfl))) (fgvs_cons (fgv_name (by decide) (pg_name (i := 9) sc__law_full.nd rfl (Or.inl rfl))) (fgvs_nil)))) rfl) (fun _ _ _ _ _ => fts_nil) (fun _ _ _ _ _ => fe_tup (pe_tup (fa_cons (fo_val (fe_var (pv 7))) (fa_cons (fo_val (fe_var (pv 8))) (fa_cons (fo_val (fe_op2 (op2_add _) (pe_op opr_add (fo_pk (pv 4)) (fo_pk (pv 5))))) (fa_nil)))))))))) (fa_nil)))))))))))) (fss_one (fs_ret (fe_sl rfl (pe_slice slr_all (fo_pk (pv 3)) (fp_none) (fp_some (fe_call (pe_callS (ok__law_some T base) (hr.mono (by decide)) (by rfl) T.mg__law_some T.kp__law_some T.b__law_some (fun σ => passAt tk σ) (fa_cons (fo_pk (pv 0)) (fa_cons (fo_val (fe_fn (fn_lst (pe_lst (fa_cons (fo_val (fe_c pe_int (.int 60) (fun _ => rfl))) (fa_cons (fo_val (fe_c pe_int (.int 60) (fun _ => rfl))) (fa_cons (fo_val (fe_c pe_int (.int 61) (fun _ => rfl))) (fa_cons (fo_val (fe_c pe_int (.int 62) (fun _ => rfl))) (fa_nil))))))))) (fa_nil)))) rfl))))))))
theorem sc_first_wrong : FnScope N_first_wrong ["many", "letters"] (defScope s_first_wrong) := ⟨rfl, rfl, rfl, by decide +kernel, rfl, by decide +kernel, by decide +kernel⟩
theorem ok_first_wrong (T : Txt K mg a) (base : Heap) : FnOk P w K mg base (L2.CX P w) 4 a.a_first_wrong a.d_first_wrong ["many", "letters"] (spF (gm K a) 2 sem_first_wrong) := by
  refine fn_ok T.f_first_wrong sc_first_wrong body_first_wrong 2 rfl 4 rfl fun cdv A outer sh H E hr => ?_
  have tk : Takes (cxOf (L2.CX P w) P w K mg base N_first_wrong "first_wrong" (defScope s_first_wrong) a.a_first_wrong cdv A outer sh H E) (fun cls d _ H => E cls d H) := takes_of rfl rfl rfl rfl
  exact fss_cons (fs_for (ps_for (passes_of rfl) rfl (fi_enum rfl (pi_enumA (by rfl) T.b_enumerate (fa_cons (fo_val (fe_var (pv 1))) (fa_nil)))) (fg_tup rfl (fgs_cons (fg_name (pg_name (i := 2) sc_first_wrong.nd rfl (Or.inl rfl))) (fgs_cons (fg_name (pg_name (i := 3) sc_first_wrong.nd rfl (Or.inl rfl))) (fgs_nil))) rfl) (fss_cons (fs_if (PW.pt (fw_or (ft_not (ft_val (pt_val (fe_call (pe_callS (ok_is_letter T base) (hr.mono (by decide)) (by rfl) T.mg_is_letter T.kp_is_letter T.b_is_letter (fun σ => passAt tk σ) (fa_cons (fo_val (fe_var (pv 0))) (fa_cons (fo_val (fe_var (pv 3))) (fa_nil)))) rfl)))) (fw_or1 (ft_op2 (op2_in _) (pt_cmpR (opr_in (units65 hr)) (fo_pk (pv 3)) (fo_val (fe_sl rfl (pe_slice slr_all (fo_pk (pv 1)) (fp_none) (fp_some (fe_var (pv 2)))))) (by rfl)))))) (fss_one (fs_ret (fe_var (pv 2)))) (fss_nil)) (fss_one (fs_if (PW.pt (fw_and (ft_op2 (op2_gt _) (pt_cmpR opr_gt (fo_pk (pv 2)) (fo_val (fe_c pe_int (.int 0) (fun _ => rfl))) (nomark _))) (fw_and1 (ft_op2 (op2_lt _) (pt_cmpR (opr_lt hr.units) (fo_val (fe_op2 (op2_ix _) (pe_ix ix_seq (fo_pk (pv 3)) (fo_val (fe_c pe_int (.int 2) (fun _ => rfl))) (fun _ _ => rfl)))) (fo_val (fe_op2 (op2_ix _) (pe_ix ix_seq (fo_val (fe_op2 (op2_ix _) (pe_ix ix_seq (fo_pk (pv 1)) (fo_val (fe_op2 (op2_sub _) (pe_op op_sub (fo_pk (pv 2)) (fo_val (fe_c pe_int (.int 1) (fun _ => rfl)))))) (fun _ _ => rfl)))) (fo_val (fe_c pe_int (.int 2) (fun _ => rfl))) (fun _ _ => rfl)))) (nomark _)))))) (fss_one (fs_ret (fe_var (pv 2)))) (fss_nil)))))) (fss_one (fs_ret (fe_c pe_non .non (fun _ => rfl))))
theorem sc_Schedule___init__ : FnScope N_Schedule___init__ ["self", "many", "letters"] (defScope s_Schedule___init__) := ⟨rfl, rfl, rfl, by decide +kernel, rfl, by decide +kernel, by decide +kernel⟩
theorem ok_Schedule___init__ (T : Txt K mg a) (base : Heap) : FnOk P w K mg base (L2.CX P w) 5 a.a_Schedule___init__ a.d_Schedule___init__ ["self", "many", "letters"] (spF (gm K a) 3 sem_Schedule___init__) := by
  obtain ⟨u_LEAST_HOUSES, m_LEAST_HOUSES, r_LEAST_HOUSES⟩ := T.k_LEAST_HOUSES
  obtain ⟨u_MOST_HOUSES, m_MOST_HOUSES, r_MOST_HOUSES⟩ := T.k_MOST_HOUSES
  obtain ⟨u_MOST_LETTERS, m_MOST_LETTERS, r_MOST_LETTERS⟩ := T.k_MOST_LETTERS
  refine fn_ok T.f_Schedule___init__ sc_Schedule___init__ body_Schedule___init__ 3 rfl 4 rfl fun cdv A outer sh H E hr => ?_
  have tk : Takes (cxOf (L2.CX P w) P w K mg base N_Schedule___init__ "Schedule.__init__" (defScope s_Schedule___init__) a.a_Schedule___init__ cdv A outer sh H E) (fun cls d _ H => E cls d H) := takes_of rfl rfl rfl rfl
  exact fss_cons (fs_if (ft_not (ft_val (pt_val (fe_call (pe_callS (ok_is_between T base) (hr.mono (by decide)) (by rfl) T.mg_is_between T.kp_is_between T.b_is_between (fun σ => passAt tk σ) (fa_cons (fo_val (fe_var (pv 1))) (fa_cons (fo_val (fe_c (pe_glob (v := .int 2) (by rfl) m_LEAST_HOUSES r_LEAST_HOUSES) (.int 2) (fun _ => rfl))) (fa_cons (fo_val (fe_c (pe_glob (v := .int 8) (by rfl) m_MOST_HOUSES r_MOST_HOUSES) (.int 8) (fun _ => rfl))) (fa_nil))))) rfl)))) (fss_one (fs_raise1 (c := 1) rfl tk T.oex_BadSchedule T.ini_BadSchedule T.tyf_BadSchedule T.nof_BadSchedule (ok_BadSchedule___init__ T base) (hr.mono (by decide)) T.b_BadSchedule___init__ (by rfl) T.mgx_BadSchedule (fe_c pe_str (.str "many") (fun _ => rfl)))) (fss_nil)) (fss_cons (fs_if (ft_not (ft_val (pt_val (fe_call (pe_callS (ok_is_sized T base) (hr.mono (by decide)) (by rfl) T.mg_is_sized T.kp_is_sized T.b_is_sized (fun σ => passAt tk σ) (fa_cons (fo_val (fe_var (pv 2))) (fa_cons (fo_val (fe_c pe_int (.int 0) (fun _ => rfl))) (fa_cons (fo_val (fe_c (pe_glob (v := .int 60) (by rfl) m_MOST_LETTERS r_MOST_LETTERS) (.int 60) (fun _ => rfl))) (fa_nil))))) rfl)))) (fss_one (fs_raise1 (c := 1) rfl tk T.oex_BadSchedule T.ini_BadSchedule T.tyf_BadSchedule T.nof_BadSchedule (ok_BadSchedule___init__ T base) (hr.mono (by decide)) T.b_BadSchedule___init__ (by rfl) T.mgx_BadSchedule (fe_c pe_str (.str "letters") (fun _ => rfl)))) (fss_nil)) (fss_cons (fs_set (ps_set (i := 3) sc_Schedule___init__.nd rfl (Or.inl rfl) (fe_call (pe_callS (ok_first_wrong T base) (hr.mono (by decide)) (by rfl) T.mg_first_wrong T.kp_first_wrong T.b_first_wrong (fun σ => passAt tk σ) (fa_cons (fo_val (fe_var (pv 1))) (fa_cons (fo_val (fe_var (pv 2))) (fa_nil)))) rfl))) (fss_cons (fs_if (ft_op2 (op2_notN _) (pt_cmpR op_notN (fo_pk (pv 3)) (fo_val (fe_c pe_non .non (fun _ => rfl))) (nomark _))) (fss_one (fs_raise1 (c := 1) rfl tk T.oex_BadSchedule T.ini_BadSchedule T.tyf_BadSchedule T.nof_BadSchedule (ok_BadSchedule___init__ T base) (hr.mono (by decide)) T.b_BadSchedule___init__ (by rfl) T.mgx_BadSchedule (fe_var (pv 3)))) (fss_nil)) (fss_cons (fs_setFld rfl T.cl T.na_many (ps_fld (fo_pk (pv 0)) (fe_var (pv 1)) rfl)) (fss_one (fs_setFld rfl T.cl T.na_letters (ps_fld (fo_pk (pv 0)) (fe_var (pv 2)) rfl)))))))
theorem sc_turns_line : FnScope N_turns_line ["n"] (defScope s_turns_line) := ⟨rfl, rfl, rfl, by decide +kernel, rfl, by decide +kernel, by decide +kernel⟩
theorem ok_turns_line (T : Txt K mg a) (base : Heap) : FnOk P w K mg base (L2.CX P w) 7 a.a_turns_line a.d_turns_line ["n"] (spF (gm K a) 1 sem_turns_line) := by
  obtain ⟨u_MOST_LETTERS, m_MOST_LETTERS, r_MOST_LETTERS⟩ := T.k_MOST_LETTERS
  refine fn_ok T.f_turns_line sc_turns_line body_turns_line 1 rfl 2 rfl fun cdv A outer sh H E hr => ?_
  have tk : Takes (cxOf (L2.CX P w) P w K mg base N_turns_line "turns_line" (defScope s_turns_line) a.a_turns_line cdv A outer sh H E) (fun cls d _ H => E cls d H) := takes_of rfl rfl rfl rfl
  exact fss_cons (fs_if (ft_not (ft_val (pt_val (fe_call (pe_callS (ok_is_between T base) (hr.mono (by decide)) (by rfl) T.mg_is_between T.kp_is_between T.b_is_between (fun σ => passAt tk σ) (fa_cons (fo_val (fe_var (pv 0))) (fa_cons (fo_val (fe_c pe_int (.int 0) (fun _ => rfl))) (fa_cons (fo_val (fe_c (pe_glob (v := .int 60) (by rfl) m_MOST_LETTERS r_MOST_LETTERS) (.int 60) (fun _ => rfl))) (fa_nil))))) rfl)))) (fss_one (fs_never)) (fss_nil)) (fss_one (fs_ret (fe_fn (fn_make (pe_makeS T.mk_Schedule (ok_Schedule___init__ T base) (hr.mono (by decide)) (by rfl) T.mg_Schedule T.b_Schedule___init__ (fun σ => passAt tk σ) (fa_cons (fo_val (fe_c pe_int (.int 2) (fun _ => rfl))) (fa_cons (fo_val (fe_opL (opL_tuple _) (pe_callTy call_tuple_of (by rfl) T.b_tuple (by decide +kernel) (fa_cons (fo_val (fe_fn (fn_lc (pe_lc (own := [("k", 1)]) rfl sc_turns_line.nd (fi_range1 (pi_range1 (by rfl) T.b_range (fa_cons (fo_val (fe_var (pv 0))) (fa_nil)))) (blkOk_by (N := N_turns_line) (sc := defScope s_turns_line) (by decide +kernel)) (fun _ _ _ _ _ => fgv_name (by decide) (pg_name (i := 1) sc_turns_line.nd rfl (Or.inl rfl))) (fun _ _ _ _ _ => fts_nil) (fun _ _ _ _ _ => fe_tup (pe_tup (fa_cons (fo_val (fe_op2 (op2_and _) (pe_op op_and (fo_pk (pv 1)) (fo_val (fe_c pe_int (.int 1) (fun _ => rfl)))))) (fa_cons (fo_val (fe_op2 (op2_sub _) (pe_op op_sub (fo_val (fe_c pe_int (.int 1) (fun _ => rfl))) (fo_val (fe_op2 (op2_and _) (pe_op op_and (fo_pk (pv 1)) (fo_val (fe_c pe_int (.int 1) (fun _ => rfl))))))))) (fa_cons (fo_val (fe_var (pv 1))) (fa_nil)))))))))) (fa_nil))))) (fa_nil)))) rfl))))
theorem sc_both_line : FnScope N_both_line ["n"] (defScope s_both_line) := ⟨rfl, rfl, rfl, by decide +kernel, rfl, by decide +kernel, by decide +kernel⟩
theorem ok_both_line (T : Txt K mg a) (base : Heap) : FnOk P w K mg base (L2.CX P w) 7 a.a_both_line a.d_both_line ["n"] (spF (gm K a) 1 sem_both_line) := by
  obtain ⟨u_MOST_LETTERS, m_MOST_LETTERS, r_MOST_LETTERS⟩ := T.k_MOST_LETTERS
  refine fn_ok T.f_both_line sc_both_line body_both_line 1 rfl 3 rfl fun cdv A outer sh H E hr => ?_
  have tk : Takes (cxOf (L2.CX P w) P w K mg base N_both_line "both_line" (defScope s_both_line) a.a_both_line cdv A outer sh H E) (fun cls d _ H => E cls d H) := takes_of rfl rfl rfl rfl
  exact fss_cons (fs_if (ft_not (ft_val (pt_val (fe_call (pe_callS (ok_is_between T base) (hr.mono (by decide)) (by rfl) T.mg_is_between T.kp_is_between T.b_is_between (fun σ => passAt tk σ) (fa_cons (fo_val (fe_var (pv 0))) (fa_cons (fo_val (fe_c pe_int (.int 0) (fun _ => rfl))) (fa_cons (fo_val (fe_op2 (op2_div _) (pe_op op_fdiv (fo_val (fe_c (pe_glob (v := .int 60) (by rfl) m_MOST_LETTERS r_MOST_LETTERS) (.int 60) (fun _ => rfl))) (fo_val (fe_c pe_int (.int 2) (fun _ => rfl)))))) (fa_nil))))) rfl)))) (fss_one (fs_never)) (fss_nil)) (fss_one (fs_ret (fe_fn (fn_make (pe_makeS T.mk_Schedule (ok_Schedule___init__ T base) (hr.mono (by decide)) (by rfl) T.mg_Schedule T.b_Schedule___init__ (fun σ => passAt tk σ) (fa_cons (fo_val (fe_c pe_int (.int 2) (fun _ => rfl))) (fa_cons (fo_val (fe_opL (opL_tuple _) (pe_callTy call_tuple_of (by rfl) T.b_tuple (by decide +kernel) (fa_cons (fo_val (fe_fn (fn_lc2 (by decide) (pe_lc2 (own := [("beat", 1), ("house", 2)]) (vs1 := [2]) rfl sc_both_line.nd (fi_range1 (pi_range1 (by rfl) T.b_range (fa_cons (fo_val (fe_var (pv 0))) (fa_nil)))) (blkOk_by (N := N_both_line) (sc := defScope s_both_line) (by decide +kernel)) (by decide) (fun _ _ _ _ _ => fgv_name (by decide) (pg_name (i := 1) sc_both_line.nd rfl (Or.inl rfl))) (fun _ _ _ _ _ => fts_nil) (fun _ _ _ _ _ => fi_range1 (pi_range1 (by rfl) T.b_range (fa_cons (fo_val (fe_c pe_int (.int 2) (fun _ => rfl))) (fa_nil)))) (fun _ _ _ _ _ => fgv_name (by decide) (pg_name (i := 2) sc_both_line.nd rfl (Or.inl rfl))) (fun _ _ _ _ _ => fts_nil) (fun _ _ _ _ _ => fe_tup (pe_tup (fa_cons (fo_val (fe_var (pv 2))) (fa_cons (fo_val (fe_op2 (op2_sub _) (pe_op op_sub (fo_val (fe_c pe_int (.int 1) (fun _ => rfl))) (fo_pk (pv 2))))) (fa_cons (fo_val (fe_var (pv 1))) (fa_nil)))))))))) (fa_nil))))) (fa_nil)))) rfl))))
theorem sc_net_schedule : FnScope N_net_schedule ["many", "ties", "beats"] (defScope s_net_schedule) := ⟨rfl, rfl, rfl, by decide +kernel, rfl, by decide +kernel, by decide +kernel⟩
theorem ok_net_schedule (T : Txt K mg a) (base : Heap) : FnOk P w K mg base (L2.CX P w) 7 a.a_net_schedule a.d_net_schedule ["many", "ties", "beats"] (spF (gm K a) 3 sem_net_schedule) := by
  obtain ⟨u_LEAST_HOUSES, m_LEAST_HOUSES, r_LEAST_HOUSES⟩ := T.k_LEAST_HOUSES
  obtain ⟨u_MOST_HOUSES, m_MOST_HOUSES, r_MOST_HOUSES⟩ := T.k_MOST_HOUSES
  obtain ⟨u_MOST_LETTERS, m_MOST_LETTERS, r_MOST_LETTERS⟩ := T.k_MOST_LETTERS
  refine fn_ok T.f_net_schedule sc_net_schedule body_net_schedule 3 rfl 7 rfl fun cdv A outer sh H E hr => ?_
  have tk : Takes (cxOf (L2.CX P w) P w K mg base N_net_schedule "net_schedule" (defScope s_net_schedule) a.a_net_schedule cdv A outer sh H E) (fun cls d _ H => E cls d H) := takes_of rfl rfl rfl rfl
  exact fss_cons (fs_if (PW.pt (fw_or (ft_not (ft_val (pt_val (fe_call (pe_callS (ok_is_between T base) (hr.mono (by decide)) (by rfl) T.mg_is_between T.kp_is_between T.b_is_between (fun σ => passAt tk σ) (fa_cons (fo_val (fe_var (pv 0))) (fa_cons (fo_val (fe_c (pe_glob (v := .int 2) (by rfl) m_LEAST_HOUSES r_LEAST_HOUSES) (.int 2) (fun _ => rfl))) (fa_cons (fo_val (fe_c (pe_glob (v := .int 8) (by rfl) m_MOST_HOUSES r_MOST_HOUSES) (.int 8) (fun _ => rfl))) (fa_nil))))) rfl)))) (fw_or1 (ft_not (ft_val (pt_val (fe_call (pe_callS (ok_are_ties T base) (hr.mono (by decide)) (by rfl) T.mg_are_ties T.kp_are_ties T.b_are_ties (fun σ => passAt tk σ) (fa_cons (fo_val (fe_var (pv 0))) (fa_cons (fo_val (fe_var (pv 1))) (fa_nil)))) rfl))))))) (fss_one (fs_never)) (fss_nil)) (fss_cons (fs_if (ft_not (ft_val (pt_val (fe_call (pe_callS (ok_is_between T base) (hr.mono (by decide)) (by rfl) T.mg_is_between T.kp_is_between T.b_is_between (fun σ => passAt tk σ) (fa_cons (fo_val (fe_var (pv 2))) (fa_cons (fo_val (fe_c pe_int (.int 0) (fun _ => rfl))) (fa_cons (fo_val (fe_c (pe_glob (v := .int 60) (by rfl) m_MOST_LETTERS r_MOST_LETTERS) (.int 60) (fun _ => rfl))) (fa_nil))))) rfl)))) (fss_one (fs_never)) (fss_nil)) (fss_cons (fs_if (ft_op2 (op2_gt _) (pt_cmpR opr_gt (fo_val (fe_op2 (op2_mul _) (pe_op opr_mul (fo_val (fe_op2 (op2_mul _) (pe_op opr_mul (fo_val (fe_c pe_int (.int 2) (fun _ => rfl))) (fo_val (fe_opL (opL_len _) (pe_callB callr_len (by rfl) T.b_len (by decide +kernel) (fa_cons (fo_pk (pv 1)) (fa_nil)))))))) (fo_pk (pv 2))))) (fo_val (fe_c (pe_glob (v := .int 60) (by rfl) m_MOST_LETTERS r_MOST_LETTERS) (.int 60) (fun _ => rfl))) (nomark _))) (fss_one (fs_raise1 (c := 2) rfl tk T.oex_TooMany T.ini_TooMany T.tyf_TooMany T.nof_TooMany (ok_TooMany___init__ T base) (hr.mono (by decide)) T.b_TooMany___init__ (by rfl) T.mgx_TooMany (fe_c (pe_glob (v := .int 60) (by rfl) m_MOST_LETTERS r_MOST_LETTERS) (.int 60) (fun _ => rfl)))) (fss_nil)) (fss_cons (fs_setN (ps_set (i := 3) sc_net_schedule.nd rfl (Or.inl rfl) (fn_lst (pe_lst (fa_nil))))) (fss_cons (fs_for (ps_for (passes_of rfl) rfl (fi_range1 (pi_range1 (by rfl) T.b_range (fa_cons (fo_val (fe_var (pv 2))) (fa_nil)))) (fg_name (pg_name (i := 4) sc_net_schedule.nd rfl (Or.inl rfl))) (fss_one (fs_for (ps_for (passes_of rfl) rfl (fi_any rfl (pi_any (fe_var (pv 1)))) (fg_tup rfl (fgs_cons (fg_name (pg_name (i := 5) sc_net_schedule.nd rfl (Or.inl rfl))) (fgs_cons (fg_name (pg_name (i := 6) sc_net_schedule.nd rfl (Or.inl rfl))) (fgs_nil))) rfl) (fss_one (fs_expr (ps_expr (fe_mt mtok_extend (pe_bm PySem.F.plainAttrs_list PySem.F.slot_list_extend PySem.F.type_list_extend mt_extend (fo_pk (pv 3)) (fa_cons (fo_val (fe_fn (fn_lst (pe_lst (fa_cons (fo_val (fe_tup (pe_tup (fa_cons (fo_val (fe_var (pv 5))) (fa_cons (fo_val (fe_var (pv 6))) (fa_cons (fo_val (fe_var (pv 4))) (fa_nil))))))) (fa_cons (fo_val (fe_tup (pe_tup (fa_cons (fo_val (fe_var (pv 6))) (fa_cons (fo_val (fe_var (pv 5))) (fa_cons (fo_val (fe_var (pv 4))) (fa_nil))))))) (fa_nil))))))) (fa_nil)))))))))))) (fss_one (fs_ret (fe_fn (fn_make (pe_makeS T.mk_Schedule (ok_Schedule___init__ T base) (hr.mono (by decide)) (by rfl) T.mg_Schedule T.b_Schedule___init__ (fun σ => passAt tk σ) (fa_cons (fo_val (fe_var (pv 0))) (fa_cons (fo_val (fe_opL (opL_tuple _) (pe_callTy call_tuple_of (by rfl) T.b_tuple (by decide +kernel) (fa_cons (fo_pk (pv 3)) (fa_nil))))) (fa_nil)))) rfl))))))))
theorem sc_without : FnScope N_without ["schedule", "letters"] (defScope s_without) := ⟨rfl, rfl, rfl, by decide +kernel, rfl, by decide +kernel, by decide +kernel⟩
theorem ok_without (T : Txt K mg a) (base : Heap) : FnOk P w K mg base (L2.CX P w) 7 a.a_without a.d_without ["schedule", "letters"] (spF (gm K a) 2 sem_without) := by
  refine fn_ok T.f_without sc_without body_without 2 rfl 5 rfl fun cdv A outer sh H E hr => ?_
  have tk : Takes (cxOf (L2.CX P w) P w K mg base N_without "without" (defScope s_without) a.a_without cdv A outer sh H E) (fun cls d _ H => E cls d H) := takes_of rfl rfl rfl rfl
  exact fss_cons (fs_if (ft_not (ft_val (pt_val (fe_call (pe_callS (ok_is_lot T base) (hr.mono (by decide)) (by rfl) T.mg_is_lot T.kp_is_lot T.b_is_lot (fun σ => passAt tk σ) (fa_cons (fo_val (fe_var (pv 1))) (fa_cons (fo_val (fe_opL (opL_len _) (pe_callB callr_len (by rfl) T.b_len (by decide +kernel) (fa_cons (fo_val (fe_fld rfl T.cl (T.na_letters) (pe_fld (fo_pk (pv 0)) rfl))) (fa_nil))))) (fa_nil)))) rfl)))) (fss_one (fs_never)) (fss_nil)) (fss_cons (fs_setLc (ps_setLc (i := 2) (own := [("number", 3), ("letter", 4)]) rfl sc_without.nd rfl rfl (sw_true rfl rfl rfl (by decide +kernel)) (fi_enum rfl (pi_enumA (by rfl) T.b_enumerate (fa_cons (fo_val (fe_fld rfl T.cl (T.na_letters) (pe_fld (fo_pk (pv 0)) rfl))) (fa_nil)))) (blkOk_by (N := N_without) (sc := defScope s_without) (by decide +kernel)) (fun _ _ _ _ _ => fgv_tup rfl (fgvs_cons (fgv_name (by decide) (pg_name (i := 3) sc_without.nd rfl (Or.inl rfl))) (fgvs_cons (fgv_name (by decide) (pg_name (i := 4) sc_without.nd rfl (Or.inl rfl))) (fgvs_nil))) rfl) (fun _ _ _ _ _ => fts_one (ft_op2 (op2_notIn _) (pt_cmpR (opr_notIn (units65 hr)) (fo_pk (pv 3)) (fo_pk (pv 1)) (by rfl)))) (fun _ _ _ _ _ => fe_var (pv 4)))) (fss_one (fs_ret (fe_fn (fn_make (pe_makeS T.mk_Schedule (ok_Schedule___init__ T base) (hr.mono (by decide)) (by rfl) T.mg_Schedule T.b_Schedule___init__ (fun σ => passAt tk σ) (fa_cons (fo_val (fe_fld rfl T.cl (T.na_many) (pe_fld (fo_pk (pv 0)) rfl))) (fa_cons (fo_val (fe_opL (opL_tuple _) (pe_callTy call_tuple_of (by rfl) T.b_tuple (by decide +kernel) (fa_cons (fo_pk (pv 2)) (fa_nil))))) (fa_nil)))) rfl)))))
theorem sc__law_equals : FnScope N__law_equals ["hand", "many", "letters"] (defScope s__law_equals) := ⟨rfl, rfl, rfl, by decide +kernel, rfl, by decide +kernel, by decide +kernel⟩
theorem ok__law_equals (T : Txt K mg a) (base : Heap) : FnOk P w K mg base (L2.CX P w) 7 a.a__law_equals a.d__law_equals ["hand", "many", "letters"] (spF (gm K a) 3 sem__law_equals) := by
  refine fn_ok T.f__law_equals sc__law_equals body__law_equals 3 rfl 6 rfl fun cdv A outer sh H E hr => ?_
  have tk : Takes (cxOf (L2.CX P w) P w K mg base N__law_equals "_law_equals" (defScope s__law_equals) a.a__law_equals cdv A outer sh H E) (fun cls d _ H => E cls d H) := takes_of rfl rfl rfl rfl
  exact fss_cons (fs_par (ps_par (i := 3) (j := 4) rfl sc__law_equals.nd rfl rfl (by decide) rfl rfl (pa_cons (fe_fn (fn_make (pe_makeS T.mk_Schedule (ok_Schedule___init__ T base) (hr.mono (by decide)) (by rfl) T.mg_Schedule T.b_Schedule___init__ (fun σ => passAt tk σ) (fa_cons (fo_val (fe_var (pv 1))) (fa_cons (fo_val (fe_var (pv 2))) (fa_nil)))) rfl)) (pa_cons (fe_fn (fn_make (pe_makeS T.mk_Schedule (ok_Schedule___init__ T base) (hr.mono (by decide)) (by rfl) T.mg_Schedule T.b_Schedule___init__ (fun σ => passAt tk σ) (fa_cons (fo_val (fe_var (pv 1))) (fa_cons (fo_val (fe_opL (opL_tuple _) (pe_callTy call_tuple_of (by rfl) T.b_tuple (by decide +kernel) (fa_cons (fo_val (fe_fn (fn_opL (opN_list _) (pe_callTy call_list_of (by rfl) T.b_list (by decide +kernel) (fa_cons (fo_pk (pv 2)) (fa_nil)))))) (fa_nil))))) (fa_nil)))) rfl)) pa_nil)) (by rfl))) (fss_cons (fs_if (PW.pt (fw_or (ft_not (ft_eqI T.insTy (pt_cmpR (op_eqI (ok_Schedule___eq__ T base) T.eq_Schedule T.eqf_Schedule T.b_Schedule___eq__ (hr.mono (by decide))) (fo_pk (pv 3)) (fo_pk (pv 4)) (nomark _)))) (fw_or (ft_eqI T.insTy (pt_cmpR (op_eqI (ok_Schedule___eq__ T base) T.eq_Schedule T.eqf_Schedule T.b_Schedule___eq__ (hr.mono (by decide))) (fo_pk (pv 3)) (fo_val (fe_tup (pe_tup (fa_cons (fo_val (fe_var (pv 1))) (fa_cons (fo_val (fe_var (pv 2))) (fa_nil)))))) (nomark _))) (fw_or (ft_eqI T.insTy (pt_cmpR (op_eqI (ok_Schedule___eq__ T base) T.eq_Schedule T.eqf_Schedule T.b_Schedule___eq__ (hr.mono (by decide))) (fo_pk (pv 3)) (fo_val (fe_c pe_non .non (fun _ => rfl))) (nomark _))) (fw_or1 (ft_eqI T.insTy (pt_cmpR (op_eqI (ok_Schedule___eq__ T base) T.eq_Schedule T.eqf_Schedule T.b_Schedule___eq__ (hr.mono (by decide))) (fo_pk (pv 3)) (fo_pk (pv 2)) (nomark _)))))))) (fss_one (fs_ret (fe_c pe_bl (.bl false) (fun _ => rfl)))) (fss_nil)) (fss_cons (fs_if (PW.pt (fw_and (ft_op2 (op2_lt _) (pt_cmpR (opr_lt hr.units) (fo_pk (pv 1)) (fo_val (fe_c pe_int (.int 8) (fun _ => rfl))) (nomark _))) (fw_and1 (ft_eqI T.insTy (pt_cmpR (op_eqI (ok_Schedule___eq__ T base) T.eq_Schedule T.eqf_Schedule T.b_Schedule___eq__ (hr.mono (by decide))) (fo_pk (pv 3)) (fo_val (fe_fn (fn_make (pe_makeS T.mk_Schedule (ok_Schedule___init__ T base) (hr.mono (by decide)) (by rfl) T.mg_Schedule T.b_Schedule___init__ (fun σ => passAt tk σ) (fa_cons (fo_val (fe_op2 (op2_add _) (pe_op opr_add (fo_pk (pv 1)) (fo_val (fe_c pe_int (.int 1) (fun _ => rfl)))))) (fa_cons (fo_val (fe_var (pv 2))) (fa_nil)))) rfl))) (nomark _)))))) (fss_one (fs_ret (fe_c pe_bl (.bl false) (fun _ => rfl)))) (fss_nil)) (fss_cons (fs_set (ps_set (i := 5) sc__law_equals.nd rfl (Or.inl rfl) (fe_call (pe_callS (ok__law_draw T base) (hr.mono (by decide)) (by rfl) T.mg__law_draw T.kp__law_draw T.b__law_draw (fun σ => passAt tk σ) (fa_cons (fo_pk (pv 0)) (fa_cons (fo_val (fe_op2 (op2_add _) (pe_op opr_add (fo_val (fe_opL (opL_len _) (pe_callB callr_len (by rfl) T.b_len (by decide +kernel) (fa_cons (fo_pk (pv 2)) (fa_nil))))) (fo_val (fe_c pe_int (.int 1) (fun _ => rfl)))))) (fa_nil)))) rfl))) (fss_one (fs_ret (fe_or (pe_or (fe_op2 (op2_eq _) (pe_cmpR (op_eqD hr.units) (fo_pk (pv 5)) (fo_val (fe_opL (opL_len _) (pe_callB callr_len (by rfl) T.b_len (by decide +kernel) (fa_cons (fo_pk (pv 2)) (fa_nil))))) (nomark _))) (pe_one (fe_not (pe_not (fe_eqI T.insTy (pe_cmpR (op_eqI (ok_Schedule___eq__ T base) T.eq_Schedule T.eqf_Schedule T.b_Schedule___eq__ (hr.mono (by decide))) (fo_pk (pv 3)) (fo_val (fe_fn (fn_make (pe_makeS T.mk_Schedule (ok_Schedule___init__ T base) (hr.mono (by decide)) (by rfl) T.mg_Schedule T.b_Schedule___init__ (fun σ => passAt tk σ) (fa_cons (fo_val (fe_var (pv 1))) (fa_cons (fo_val (fe_op2 (op2_add _) (pe_op opr_add (fo_val (fe_sl rfl (pe_slice slr_all (fo_pk (pv 2)) (fp_none) (fp_some (fe_var (pv 5)))))) (fo_val (fe_sl rfl (pe_slice slr_all (fo_pk (pv 2)) (fp_some (fe_op2 (op2_add _) (pe_op opr_add (fo_pk (pv 5)) (fo_val (fe_c pe_int (.int 1) (fun _ => rfl)))))) (fp_none))))))) (fa_nil)))) rfl))) (nomark _)))))))))))))
theorem sc__law_made : FnScope N__law_made ["many", "letters"] (defScope s__law_made) := ⟨rfl, rfl, rfl, by decide +kernel, rfl, by decide +kernel, by decide +kernel⟩
theorem ok__law_made (T : Txt K mg a) (base : Heap) : FnOk P w K mg base (L2.CX P w) 10 a.a__law_made a.d__law_made ["many", "letters"] (spF (gm K a) 2 sem__law_made) := by
  refine fn_ok T.f__law_made sc__law_made body__law_made 2 rfl 4 rfl fun cdv A outer sh H E hr => ?_
  have tk : Takes (cxOf (L2.CX P w) P w K mg base N__law_made "_law_made" (defScope s__law_made) a.a__law_made cdv A outer sh H E) (fun cls d _ H => E cls d H) := takes_of rfl rfl rfl rfl
  exact fss_cons (fs_try1 (i := 3) (n := "e") rfl rfl sc__law_made.nd rfl rfl ⟨rfl, by decide, .inl T.mgx_BadSchedule⟩ tk T.exm_BadSchedule tame_ret (fun W' pn xe t po => fss_one (fs_set (ps_set (i := 2) sc__law_made.nd rfl (Or.inl rfl) (fe_fn (fn_make (pe_makeS T.mk_Schedule (ok_Schedule___init__ T base) (hr.mono (by decide)) (by rfl) T.mg_Schedule T.b_Schedule___init__ (fun σ => passAt t σ) (fa_cons (fo_val (fe_var (pv 0))) (fa_cons (fo_val (fe_var (pv 1))) (fa_nil)))) rfl))))) (fun a' oe cls d pn hz hf => ss_ret (sx_if (PW.pt (sw_and (sb_val (pt_val (sx_isi (cv := .ref a.c_TalkError) T.exT T.kit_TalkError (fun _ h => h) hz hf (pv 3) (pe_glob (v := .ref a.c_TalkError) (by rfl) T.mgx_TalkError rfl) (by rfl) T.b_isinstance (by decide +kernel)))) (pw_and1 (sb_val (pt_val (sx_isi (cv := .ty "ValueError") T.exT T.kit_ValueError (fun _ h => h) hz hf (pv 3) (pe_bltn (v := .ty "ValueError") (u := .type "ValueError") (by rfl) T.b_ValueError (by decide +kernel) rfl) (by rfl) T.b_isinstance (by decide +kernel))))))) (sx_fld (c0 := 1) T.xf_BadSchedule T.nof_BadSchedule hz hf (pv 3)) (sx_c pe_str (.str "other") (fun _ => rfl))))) (fss_one (fs_ret (fe_if (PW.pt (fw_and (ft_val (pt_val (fe_call (pe_callS (ok__law_is T base 8) (hr.mono (by decide)) (by rfl) T.mg__law_is T.kp__law_is T.b__law_is (fun σ => passAt tk σ) (fa_cons (fo_val (fe_fld rfl T.cl (T.na_many) (pe_fld (fo_pk (pv 2)) rfl))) (fa_cons (fo_val (fe_var (pv 0))) (fa_nil)))) rfl))) (fw_and1 (ft_val (pt_val (fe_call (pe_callS (ok__law_is T base 8) (hr.mono (by decide)) (by rfl) T.mg__law_is T.kp__law_is T.b__law_is (fun σ => passAt tk σ) (fa_cons (fo_val (fe_fld rfl T.cl (T.na_letters) (pe_fld (fo_pk (pv 2)) rfl))) (fa_cons (fo_val (fe_var (pv 1))) (fa_nil)))) rfl)))))) (fe_c pe_str (.str "let") (fun _ => rfl)) (fe_c pe_str (.str "kept") (fun _ => rfl)))))
theorem sc__law_lines : FnScope N__law_lines ["n"] (defScope s__law_lines) := ⟨rfl, rfl, rfl, by decide +kernel, rfl, by decide +kernel, by decide +kernel⟩
theorem ok__law_lines (T : Txt K mg a) (base : Heap) : FnOk P w K mg base (L2.CX P w) 10 a.a__law_lines a.d__law_lines ["n"] (spF (gm K a) 1 sem__law_lines) := by
  refine fn_ok T.f__law_lines sc__law_lines body__law_lines 1 rfl 5 rfl fun cdv A outer sh H E hr => ?_
  have tk : Takes (cxOf (L2.CX P w) P w K mg base N__law_lines "_law_lines" (defScope s__law_lines) a.a__law_lines cdv A outer sh H E) (fun cls d _ H => E cls d H) := takes_of rfl rfl rfl rfl
  exact fss_cons (fs_set (ps_set (i := 1) sc__law_lines.nd rfl (Or.inl rfl) (fe_call (pe_callS (ok_turns_line T base) (hr.mono (by decide)) (by rfl) T.mg_turns_line T.kp_turns_line T.b_turns_line (fun σ => passAt tk σ) (fa_cons (fo_val (fe_var (pv 0))) (fa_nil))) rfl))) (fss_cons (fs_if (PW.pt (fw_or (ft_not (ft_val (pt_val (fe_call (pe_callS (ok__law_is T base 8) (hr.mono (by decide)) (by rfl) T.mg__law_is T.kp__law_is T.b__law_is (fun σ => passAt tk σ) (fa_cons (fo_val (fe_fld rfl T.cl (T.na_letters) (pe_fld (fo_pk (pv 1)) rfl))) (fa_cons (fo_val (fe_opL (opL_tuple _) (pe_callTy call_tuple_of (by rfl) T.b_tuple (by decide +kernel) (fa_cons (fo_val (fe_fn (fn_lc (pe_lc (own := [("k", 4)]) rfl sc__law_lines.nd (fi_range1 (pi_range1 (by rfl) T.b_range (fa_cons (fo_val (fe_var (pv 0))) (fa_nil)))) (blkOk_by (N := N__law_lines) (sc := defScope s__law_lines) (by decide +kernel)) (fun _ _ _ _ _ => fgv_name (by decide) (pg_name (i := 4) sc__law_lines.nd rfl (Or.inl rfl))) (fun _ _ _ _ _ => fts_nil) (fun _ _ _ _ _ => fe_tup (pe_tup (fa_cons (fo_val (fe_op2 (op2_mod _) (pe_op op_mod (fo_val (fe_opL (opL_int _) (pe_callTy call_int1 (by rfl) T.b_int (by decide +kernel) (fa_cons (fo_pk (pv 4)) (fa_nil))))) (fo_val (fe_c pe_int (.int 2) (fun _ => rfl)))))) (fa_cons (fo_val (fe_op2 (op2_sub _) (pe_op op_sub (fo_val (fe_c pe_int (.int 1) (fun _ => rfl))) (fo_val (fe_op2 (op2_mod _) (pe_op op_mod (fo_val (fe_opL (opL_int _) (pe_callTy call_int1 (by rfl) T.b_int (by decide +kernel) (fa_cons (fo_pk (pv 4)) (fa_nil))))) (fo_val (fe_c pe_int (.int 2) (fun _ => rfl))))))))) (fa_cons (fo_val (fe_var (pv 4))) (fa_nil)))))))))) (fa_nil))))) (fa_nil)))) rfl)))) (fw_or1 (ft_op2 (op2_ne _) (pt_cmpR (op_neD hr.units) (fo_val (fe_fld rfl T.cl (T.na_many) (pe_fld (fo_pk (pv 1)) rfl))) (fo_val (fe_c pe_int (.int 2) (fun _ => rfl))) (nomark _)))))) (fss_one (fs_ret (fe_c pe_bl (.bl false) (fun _ => rfl)))) (fss_nil)) (fss_cons (fs_if (ft_op2 (op2_gt _) (pt_cmpR opr_gt (fo_pk (pv 0)) (fo_val (fe_c pe_int (.int 30) (fun _ => rfl))) (nomark _))) (fss_one (fs_ret (fe_c pe_bl (.bl true) (fun _ => rfl)))) (fss_nil)) (fss_cons (fs_set (ps_set (i := 2) sc__law_lines.nd rfl (Or.inl rfl) (fe_fn (fn_lst (pe_lst (fa_nil)))))) (fss_cons (fs_for (ps_for (passes_of rfl) rfl (fi_range1 (pi_range1 (by rfl) T.b_range (fa_cons (fo_val (fe_var (pv 0))) (fa_nil)))) (fg_name (pg_name (i := 3) sc__law_lines.nd rfl (Or.inl rfl))) (fss_one (fs_set (ps_set (i := 2) sc__law_lines.nd rfl (Or.inl rfl) (fe_op2 (op2_add _) (pe_op opr_add (fo_pk (pv 2)) (fo_val (fe_fn (fn_lst (pe_lst (fa_cons (fo_val (fe_tup (pe_tup (fa_cons (fo_val (fe_c pe_int (.int 0) (fun _ => rfl))) (fa_cons (fo_val (fe_c pe_int (.int 1) (fun _ => rfl))) (fa_cons (fo_val (fe_var (pv 3))) (fa_nil))))))) (fa_cons (fo_val (fe_tup (pe_tup (fa_cons (fo_val (fe_c pe_int (.int 1) (fun _ => rfl))) (fa_cons (fo_val (fe_c pe_int (.int 0) (fun _ => rfl))) (fa_cons (fo_val (fe_var (pv 3))) (fa_nil))))))) (fa_nil)))))))))))))) (fss_cons (fs_set (ps_set (i := 1) sc__law_lines.nd rfl (Or.inl rfl) (fe_call (pe_callS (ok_both_line T base) (hr.mono (by decide)) (by rfl) T.mg_both_line T.kp_both_line T.b_both_line (fun σ => passAt tk σ) (fa_cons (fo_val (fe_var (pv 0))) (fa_nil))) rfl))) (fss_one (fs_ret (fe_and (pe_and (fe_call (pe_callS (ok__law_is T base 8) (hr.mono (by decide)) (by rfl) T.mg__law_is T.kp__law_is T.b__law_is (fun σ => passAt tk σ) (fa_cons (fo_val (fe_fld rfl T.cl (T.na_letters) (pe_fld (fo_pk (pv 1)) rfl))) (fa_cons (fo_val (fe_opL (opL_tuple _) (pe_callTy call_tuple_of (by rfl) T.b_tuple (by decide +kernel) (fa_cons (fo_pk (pv 2)) (fa_nil))))) (fa_nil)))) rfl) (pe_one (fe_call (pe_callS (ok__law_is T base 8) (hr.mono (by decide)) (by rfl) T.mg__law_is T.kp__law_is T.b__law_is (fun σ => passAt tk σ) (fa_cons (fo_val (fe_fld rfl T.cl (T.na_many) (pe_fld (fo_pk (pv 1)) rfl))) (fa_cons (fo_val (fe_c pe_int (.int 2) (fun _ => rfl))) (fa_nil)))) rfl)))))))))))
theorem sc__law_net : FnScope N__law_net ["many", "ties", "beats"] (defScope s__law_net) := ⟨rfl, rfl, rfl, by decide +kernel, rfl, by decide +kernel, by decide +kernel⟩
theorem ok__law_net (T : Txt K mg a) (base : Heap) : FnOk P w K mg base (L2.CX P w) 10 a.a__law_net a.d__law_net ["many", "ties", "beats"] (spF (gm K a) 3 sem__law_net) := by
  refine fn_ok T.f__law_net sc__law_net body__law_net 3 rfl 10 rfl fun cdv A outer sh H E hr => ?_
  have tk : Takes (cxOf (L2.CX P w) P w K mg base N__law_net "_law_net" (defScope s__law_net) a.a__law_net cdv A outer sh H E) (fun cls d _ H => E cls d H) := takes_of rfl rfl rfl rfl
  exact fss_cons (fs_asg (ps_asg (fe_tup (pe_tup (fa_cons (fo_val (fe_c pe_non .non (fun _ => rfl))) (fa_cons (fo_val (fe_c pe_non .non (fun _ => rfl))) (fa_nil))))) (fg_tup rfl (fgs_cons (fg_name (pg_name (i := 3) sc__law_net.nd rfl (Or.inl rfl))) (fgs_cons (fg_name (pg_name (i := 4) sc__law_net.nd rfl (Or.inl rfl))) (fgs_nil))) rfl))) (fss_cons (fs_try1 (i := 7) (n := "e") rfl rfl sc__law_net.nd rfl rfl ⟨rfl, by decide, .inl T.mgx_TooMany⟩ tk T.exm_TooMany (tame_set (by decide)) (fun W' pn xe t po => fss_one (fs_set (ps_set (i := 4) sc__law_net.nd rfl (Or.inl rfl) (fe_call (pe_callS (ok_net_schedule T base) (hr.mono (by decide)) (by rfl) T.mg_net_schedule T.kp_net_schedule T.b_net_schedule (fun σ => passAt t σ) (fa_cons (fo_val (fe_var (pv 0))) (fa_cons (fo_val (fe_var (pv 1))) (fa_cons (fo_val (fe_var (pv 2))) (fa_nil))))) rfl)))) (fun a' oe cls d pn hz hf => ss_set (ps_set (i := 3) sc__law_net.nd rfl (Or.inl rfl) (sx_fld (c0 := 2) T.xf_TooMany T.nof_TooMany hz hf (pv 7))))) (fss_cons (fs_if (ft_op2 (op2_gt _) (pt_cmpR opr_gt (fo_val (fe_op2 (op2_mul _) (pe_op opr_mul (fo_val (fe_op2 (op2_mul _) (pe_op opr_mul (fo_val (fe_c pe_int (.int 2) (fun _ => rfl))) (fo_val (fe_opL (opL_len _) (pe_callB callr_len (by rfl) T.b_len (by decide +kernel) (fa_cons (fo_pk (pv 1)) (fa_nil)))))))) (fo_pk (pv 2))))) (fo_val (fe_c pe_int (.int 60) (fun _ => rfl))) (nomark _))) (fss_one (fs_ret (fe_call (pe_callS (ok__law_is T base 8) (hr.mono (by decide)) (by rfl) T.mg__law_is T.kp__law_is T.b__law_is (fun σ => passAt tk σ) (fa_cons (fo_val (fe_var (pv 3))) (fa_cons (fo_val (fe_c pe_int (.int 60) (fun _ => rfl))) (fa_nil)))) rfl))) (fss_nil)) (fss_cons (fs_if (PW.pt (fw_or (ft_op2 (op2_notN _) (pt_cmpR op_notN (fo_pk (pv 3)) (fo_val (fe_c pe_non .non (fun _ => rfl))) (nomark _))) (fw_or1 (ft_op2 (op2_isN _) (pt_cmpR op_isN (fo_pk (pv 4)) (fo_val (fe_c pe_non .non (fun _ => rfl))) (nomark _)))))) (fss_one (fs_ret (fe_c pe_bl (.bl false) (fun _ => rfl)))) (fss_nil)) (fss_cons (fs_set (ps_set (i := 5) sc__law_net.nd rfl (Or.inl rfl) (fe_fn (fn_lst (pe_lst (fa_nil)))))) (fss_cons (fs_for (ps_for (passes_of rfl) rfl (fi_range1 (pi_range1 (by rfl) T.b_range (fa_cons (fo_val (fe_var (pv 2))) (fa_nil)))) (fg_name (pg_name (i := 6) sc__law_net.nd rfl (Or.inl rfl))) (fss_one (fs_for (ps_for (passes_of rfl) rfl (fi_any rfl (pi_any (fe_var (pv 1)))) (fg_tup rfl (fgs_cons (fg_name (pg_name (i := 8) sc__law_net.nd rfl (Or.inl rfl))) (fgs_cons (fg_name (pg_name (i := 9) sc__law_net.nd rfl (Or.inl rfl))) (fgs_nil))) rfl) (fss_one (fs_set (ps_set (i := 5) sc__law_net.nd rfl (Or.inl rfl) (fe_op2 (op2_add _) (pe_op opr_add (fo_pk (pv 5)) (fo_val (fe_fn (fn_lst (pe_lst (fa_cons (fo_val (fe_tup (pe_tup (fa_cons (fo_val (fe_var (pv 8))) (fa_cons (fo_val (fe_var (pv 9))) (fa_cons (fo_val (fe_var (pv 6))) (fa_nil))))))) (fa_cons (fo_val (fe_tup (pe_tup (fa_cons (fo_val (fe_var (pv 9))) (fa_cons (fo_val (fe_var (pv 8))) (fa_cons (fo_val (fe_var (pv 6))) (fa_nil))))))) (fa_nil))))))))))))))))) (fss_one (fs_ret (fe_and (pe_and (fe_call (pe_callS (ok__law_is T base 8) (hr.mono (by decide)) (by rfl) T.mg__law_is T.kp__law_is T.b__law_is (fun σ => passAt tk σ) (fa_cons (fo_val (fe_fld rfl T.cl (T.na_letters) (pe_fld (fo_pk (pv 4)) rfl))) (fa_cons (fo_val (fe_opL (opL_tuple _) (pe_callTy call_tuple_of (by rfl) T.b_tuple (by decide +kernel) (fa_cons (fo_pk (pv 5)) (fa_nil))))) (fa_nil)))) rfl) (pe_one (fe_call (pe_callS (ok__law_is T base 8) (hr.mono (by decide)) (by rfl) T.mg__law_is T.kp__law_is T.b__law_is (fun σ => passAt tk σ) (fa_cons (fo_val (fe_fld rfl T.cl (T.na_many) (pe_fld (fo_pk (pv 4)) rfl))) (fa_cons (fo_val (fe_var (pv 0))) (fa_nil)))) rfl)))))))))))
theorem sc_law : FnScope N_law ["script"] (defScope s_law) := ⟨rfl, rfl, rfl, by decide +kernel, rfl, by decide +kernel, by decide +kernel⟩
theorem ok_law (T : Txt K mg a) (base : Heap) : FnOk P w K mg base (L2.CX P w) 11 a.a_law a.d_law ["script"] (spF (gm K a) 1 sem_law) := by
  refine fn_ok T.f_law sc_law body_law 1 rfl 16 rfl fun cdv A outer sh H E hr => ?_
  have tk : Takes (cxOf (L2.CX P w) P w K mg base N_law "law" (defScope s_law) a.a_law cdv A outer sh H E) (fun cls d _ H => E cls d H) := takes_of rfl rfl rfl rfl
  exact fss_cons (fs_setN (ps_set (i := 1) sc_law.nd rfl (Or.inr rfl) (fn_call (pe_callS (ok__law_hand T base) (hr.mono (by decide)) (by rfl) T.mg__law_hand T.kp__law_hand T.b__law_hand (fun σ => passAt tk σ) (fa_cons (fo_val (fe_var (pv 0))) (fa_nil))) rfl))) (fss_cons (fs_set (ps_set (i := 2) sc_law.nd rfl (Or.inl rfl) (fe_op2 (op2_add _) (pe_op opr_add (fo_val (fe_c pe_int (.int 2) (fun _ => rfl))) (fo_val (fe_call (pe_callS (ok__law_draw T base) (hr.mono (by decide)) (by rfl) T.mg__law_draw T.kp__law_draw T.b__law_draw (fun σ => passAt tk σ) (fa_cons (fo_pk (pv 1)) (fa_cons (fo_val (fe_c pe_int (.int 7) (fun _ => rfl))) (fa_nil)))) rfl)))))) (fss_cons (fs_set (ps_set (i := 3) sc_law.nd rfl (Or.inr rfl) (fe_call (pe_callS (ok__law_letters T base) (hr.mono (by decide)) (by rfl) T.mg__law_letters T.kp__law_letters T.b__law_letters (fun σ => passAt tk σ) (fa_cons (fo_pk (pv 1)) (fa_cons (fo_val (fe_var (pv 2))) (fa_cons (fo_val (fe_call (pe_callS (ok__law_some T base) (hr.mono (by decide)) (by rfl) T.mg__law_some T.kp__law_some T.b__law_some (fun σ => passAt tk σ) (fa_cons (fo_pk (pv 1)) (fa_cons (fo_val (fe_fn (fn_lst (pe_lst (fa_cons (fo_val (fe_c pe_int (.int 0) (fun _ => rfl))) (fa_cons (fo_val (fe_c pe_int (.int 1) (fun _ => rfl))) (fa_cons (fo_val (fe_c pe_int (.int 3) (fun _ => rfl))) (fa_cons (fo_val (fe_c pe_int (.int 6) (fun _ => rfl))) (fa_cons (fo_val (fe_c pe_int (.int 12) (fun _ => rfl))) (fa_cons (fo_val (fe_c pe_int (.int 60) (fun _ => rfl))) (fa_nil))))))))))) (fa_nil)))) rfl)) (fa_nil))))) rfl))) (fss_cons (fs_if (ft_op2 (op2_eq _) (pt_cmpR (op_eqD hr.units) (fo_val (fe_call (pe_callS (ok__law_draw T base) (hr.mono (by decide)) (by rfl) T.mg__law_draw T.kp__law_draw T.b__law_draw (fun σ => passAt tk σ) (fa_cons (fo_pk (pv 1)) (fa_cons (fo_val (fe_c pe_int (.int 8) (fun _ => rfl))) (fa_nil)))) rfl)) (fo_val (fe_c pe_int (.int 0) (fun _ => rfl))) (nomark _))) (fss_one (fs_set (ps_set (i := 3) sc_law.nd rfl (Or.inr rfl) (fe_call (pe_callS (ok__law_full T base) (hr.mono (by decide)) (by rfl) T.mg__law_full T.kp__law_full T.b__law_full (fun σ => passAt tk σ) (fa_cons (fo_pk (pv 1)) (fa_cons (fo_val (fe_var (pv 2))) (fa_nil)))) rfl)))) (fss_nil)) (fss_cons (fs_if (ft_op2 (op2_ne _) (pt_cmpR (op_neD hr.units) (fo_val (fe_call (pe_callS (ok__law_made T base) (hr.mono (by decide)) (by rfl) T.mg__law_made T.kp__law_made T.b__law_made (fun σ => passAt tk σ) (fa_cons (fo_val (fe_var (pv 2))) (fa_cons (fo_val (fe_var (pv 3))) (fa_nil)))) rfl)) (fo_val (fe_call (pe_callS (ok__law_part T base) (hr.mono (by decide)) (by rfl) T.mg__law_part T.kp__law_part T.b__law_part (fun σ => passAt tk σ) (fa_cons (fo_val (fe_var (pv 2))) (fa_cons (fo_val (fe_var (pv 3))) (fa_nil)))) rfl)) (nomark _))) (fss_one (fs_ret (fe_c pe_bl (.bl false) (fun _ => rfl)))) (fss_nil)) (fss_cons (fs_if (ft_op2 (op2_le _) (pt_cmpR opr_le (fo_val (fe_opL (opL_len _) (pe_callB callr_len (by rfl) T.b_len (by decide +kernel) (fa_cons (fo_pk (pv 3)) (fa_nil))))) (fo_val (fe_c pe_int (.int 60) (fun _ => rfl))) (nomark _))) (fss_cons (fs_if (ft_not (ft_val (pt_val (fe_call (pe_callS (ok__law_equals T base) (hr.mono (by decide)) (by rfl) T.mg__law_equals T.kp__law_equals T.b__law_equals (fun σ => passAt tk σ) (fa_cons (fo_pk (pv 1)) (fa_cons (fo_val (fe_var (pv 2))) (fa_cons (fo_val (fe_var (pv 3))) (fa_nil))))) rfl)))) (fss_one (fs_ret (fe_c pe_bl (.bl false) (fun _ => rfl)))) (fss_nil)) (fss_cons (fs_set (ps_set (i := 9) sc_law.nd rfl (Or.inr rfl) (fe_opL (opL_tuple _) (pe_callTy call_tuple_of (by rfl) T.b_tuple (by decide +kernel) (fa_cons (fo_val (fe_fn (fn_lc (pe_lc (own := [("at", 15)]) rfl sc_law.nd (fi_range1 (pi_range1 (by rfl) T.b_range (fa_cons (fo_val (fe_opL (opL_len _) (pe_callB callr_len (by rfl) T.b_len (by decide +kernel) (fa_cons (fo_pk (pv 3)) (fa_nil))))) (fa_nil)))) (blkOk_by (N := N_law) (sc := defScope s_law) (by decide +kernel)) (fun _ _ _ _ _ => fgv_name (by decide) (pg_name (i := 15) sc_law.nd rfl (Or.inl rfl))) (fun _ _ _ _ _ => fts_one (ft_op2 (op2_eq _) (pt_cmpR (op_eqD hr.units) (fo_val (fe_call (pe_callS (ok__law_draw T base) (hr.mono (by decide)) (by rfl) T.mg__law_draw T.kp__law_draw T.b__law_draw (fun σ => passAt takes0 σ) (fa_cons (fo_pk (pv 1)) (fa_cons (fo_val (fe_c pe_int (.int 3) (fun _ => rfl))) (fa_nil)))) rfl)) (fo_val (fe_c pe_int (.int 0) (fun _ => rfl))) (nomark _)))) (fun _ _ _ _ _ => fe_var (pv 15)))))) (fa_nil)))))) (fss_cons (fs_if (ft_op2 (op2_eq _) (pt_cmpR (op_eqD hr.units) (fo_val (fe_call (pe_callS (ok__law_draw T base) (hr.mono (by decide)) (by rfl) T.mg__law_draw T.kp__law_draw T.b__law_draw (fun σ => passAt tk σ) (fa_cons (fo_pk (pv 1)) (fa_cons (fo_val (fe_c pe_int (.int 4) (fun _ => rfl))) (fa_nil)))) rfl)) (fo_val (fe_c pe_int (.int 0) (fun _ => rfl))) (nomark _))) (fss_one (fs_set (ps_set (i := 9) sc_law.nd rfl (Or.inr rfl) (fe_call (pe_callS (ok__law_some T base) (hr.mono (by decide)) (by rfl) T.mg__law_some T.kp__law_some T.b__law_some (fun σ => passAt tk σ) (fa_cons (fo_pk (pv 1)) (fa_cons (fo_val (fe_fn (fn_lst (pe_lst (fa_cons (fo_val (fe_tup (pe_tup (fa_nil)))) (fa_cons (fo_val (fe_tupR (pe_tupRg rfl (by rfl) T.b_tuple (prg_1 (by rfl) T.b_range (fe_opL (opL_len _) (pe_callB callr_len (by rfl) T.b_len (by decide +kernel) (fa_cons (fo_pk (pv 3)) (fa_nil)))))))) (fa_nil))))))) (fa_nil)))) rfl)))) (fss_nil)) (fss_cons (fs_set (ps_set (i := 10) sc_law.nd rfl (Or.inl rfl) (fe_call (pe_callS (ok_without T base) (hr.mono (by decide)) (by rfl) T.mg_without T.kp_without T.b_without (fun σ => passAt tk σ) (fa_cons (fo_val (fe_fn (fn_make (pe_makeS T.mk_Schedule (ok_Schedule___init__ T base) (hr.mono (by decide)) (by rfl) T.mg_Schedule T.b_Schedule___init__ (fun σ => passAt tk σ) (fa_cons (fo_val (fe_var (pv 2))) (fa_cons (fo_val (fe_var (pv 3))) (fa_nil)))) rfl))) (fa_cons (fo_val (fe_var (pv 9))) (fa_nil)))) rfl))) (fss_cons (fs_set (ps_set (i := 11) sc_law.nd rfl (Or.inl rfl) (fe_opL (opL_tuple _) (pe_callTy call_tuple_of (by rfl) T.b_tuple (by decide +kernel) (fa_cons (fo_val (fe_fn (fn_lc (pe_lc (own := [("at", 15)]) rfl sc_law.nd (fi_range1 (pi_range1 (by rfl) T.b_range (fa_cons (fo_val (fe_opL (opL_len _) (pe_callB callr_len (by rfl) T.b_len (by decide +kernel) (fa_cons (fo_pk (pv 3)) (fa_nil))))) (fa_nil)))) (blkOk_by (N := N_law) (sc := defScope s_law) (by decide +kernel)) (fun _ _ _ _ _ => fgv_name (by decide) (pg_name (i := 15) sc_law.nd rfl (Or.inl rfl))) (fun _ _ _ _ _ => fts_one (ft_op2 (op2_notIn _) (pt_cmpR (opr_notIn (units65 hr)) (fo_pk (pv 15)) (fo_pk (pv 9)) (by rfl)))) (fun _ _ _ _ _ => fe_op2 (op2_ix _) (pe_ix ix_seq (fo_pk (pv 3)) (fo_pk (pv 15)) (fun _ _ => rfl))))))) (fa_nil)))))) (fss_one (fs_if (PW.pt (fw_or (ft_not (ft_val (pt_val (fe_call (pe_callS (ok__law_is T base 8) (hr.mono (by decide)) (by rfl) T.mg__law_is T.kp__law_is T.b__law_is (fun σ => passAt tk σ) (fa_cons (fo_val (fe_fld rfl T.cl (T.na_letters) (pe_fld (fo_pk (pv 10)) rfl))) (fa_cons (fo_val (fe_var (pv 11))) (fa_nil)))) rfl)))) (fw_or1 (ft_not (ft_val (pt_val (fe_call (pe_callS (ok__law_is T base 8) (hr.mono (by decide)) (by rfl) T.mg__law_is T.kp__law_is T.b__law_is (fun σ => passAt tk σ) (fa_cons (fo_val (fe_fld rfl T.cl (T.na_many) (pe_fld (fo_pk (pv 10)) rfl))) (fa_cons (fo_val (fe_var (pv 2))) (fa_nil)))) rfl))))))) (fss_one (fs_ret (fe_c pe_bl (.bl false) (fun _ => rfl)))) (fss_nil)))))))) (fss_nil)) (fss_cons (fs_for (ps_for (passes_of rfl) rfl (fi_range1 (pi_range1 (by rfl) T.b_range (fa_cons (fo_val (fe_c pe_int (.int 3) (fun _ => rfl))) (fa_nil)))) (fg_name (pg_name (i := 4) sc_law.nd rfl (Or.inl rfl))) (fss_cons (fs_par (ps_par (i := 12) (j := 13) rfl sc_law.nd rfl rfl (by decide) rfl rfl (pa_cons (fe_var (pv 3)) (pa_cons (fe_var (pv 2)) pa_nil)) (by rfl))) (fss_cons (fs_for (ps_for (passes_of rfl) rfl (fi_range1 (pi_range1 (by rfl) T.b_range (fa_cons (fo_val (fe_op2 (op2_add _) (pe_op opr_add (fo_val (fe_c pe_int (.int 1) (fun _ => rfl))) (fo_val (fe_call (pe_callS (ok__law_draw T base) (hr.mono (by decide)) (by rfl) T.mg__law_draw T.kp__law_draw T.b__law_draw (fun σ => passAt tk σ) (fa_cons (fo_pk (pv 1)) (fa_cons (fo_val (fe_c pe_int (.int 2) (fun _ => rfl))) (fa_nil)))) rfl))))) (fa_nil)))) (fg_name (pg_name (i := 14) sc_law.nd rfl (Or.inl rfl))) (fss_one (fs_if (ft_op2 (op2_gt _) (pt_cmpR opr_gt (fo_val (fe_opL (opL_len _) (pe_callB callr_len (by rfl) T.b_len (by decide +kernel) (fa_cons (fo_pk (pv 12)) (fa_nil))))) (fo_val (fe_c pe_int (.int 0) (fun _ => rfl))) (nomark _))) (fss_one (fs_set (ps_set (i := 12) sc_law.nd rfl (Or.inl rfl) (fe_call (pe_callS (ok__law_spoilt T base) (hr.mono (by decide)) (by rfl) T.mg__law_spoilt T.kp__law_spoilt T.b__law_spoilt (fun σ => passAt tk σ) (fa_cons (fo_pk (pv 1)) (fa_cons (fo_val (fe_var (pv 2))) (fa_cons (fo_val (fe_var (pv 12))) (fa_nil))))) rfl)))) (fss_nil))))) (fss_cons (fs_if (ft_op2 (op2_eq _) (pt_cmpR (op_eqD hr.units) (fo_val (fe_call (pe_callS (ok__law_draw T base) (hr.mono (by decide)) (by rfl) T.mg__law_draw T.kp__law_draw T.b__law_draw (fun σ => passAt tk σ) (fa_cons (fo_pk (pv 1)) (fa_cons (fo_val (fe_c pe_int (.int 6) (fun _ => rfl))) (fa_nil)))) rfl)) (fo_val (fe_c pe_int (.int 0) (fun _ => rfl))) (nomark _))) (fss_one (fs_set (ps_set (i := 13) sc_law.nd rfl (Or.inl rfl) (fe_call (pe_callS (ok__law_some T base) (hr.mono (by decide)) (by rfl) T.mg__law_some T.kp__law_some T.b__law_some (fun σ => passAt tk σ) (fa_cons (fo_pk (pv 1)) (fa_cons (fo_val (fe_fn (fn_lst (pe_lst (fa_cons (fo_val (fe_c pe_int (.int 0) (fun _ => rfl))) (fa_cons (fo_val (fe_c pe_int (.int 1) (fun _ => rfl))) (fa_cons (fo_val (fe_c pe_int (.int 2) (fun _ => rfl))) (fa_cons (fo_val (fe_c pe_int (.int 8) (fun _ => rfl))) (fa_cons (fo_val (fe_c pe_int (.int 9) (fun _ => rfl))) (fa_cons (fo_val (fe_c pe_bl (.bl true) (fun _ => rfl))) (fa_cons (fo_val (fe_c pe_non .non (fun _ => rfl))) (fa_cons (fo_val (fe_c pe_str (.str "2") (fun _ => rfl))) (fa_cons (fo_val (fe_neg (pe_un un_neg (fe_c pe_int (.int 1) (fun _ => rfl))))) (fa_cons (fo_val (fe_op2 (op2_pow _) (pe_op op_pow (fo_val (fe_c pe_int (.int 10) (fun _ => rfl))) (fo_val (fe_c pe_int (.int 19) (fun _ => rfl)))))) (fa_cons (fo_val (fe_tup (pe_tup (fa_cons (fo_val (fe_c pe_int (.int 2) (fun _ => rfl))) (fa_nil))))) (fa_cons (fo_val (fe_fn (fn_lst (pe_lst (fa_cons (fo_val (fe_c pe_int (.int 2) (fun _ => rfl))) (fa_nil)))))) (fa_cons (fo_val (fe_call (pe_callS (ok__law_deep T base) (hr.mono (by decide)) (by rfl) T.mg__law_deep T.kp__law_deep T.b__law_deep (fun σ => passAt tk σ) (fa_cons (fo_val (fe_c pe_int (.int 0) (fun _ => rfl))) (fa_nil))) rfl)) (fa_nil)))))))))))))))))) (fa_nil)))) rfl)))) (fss_nil)) (fss_cons (fs_if (ft_op2 (op2_eq _) (pt_cmpR (op_eqD hr.units) (fo_val (fe_call (pe_callS (ok__law_draw T base) (hr.mono (by decide)) (by rfl) T.mg__law_draw T.kp__law_draw T.b__law_draw (fun σ => passAt tk σ) (fa_cons (fo_pk (pv 1)) (fa_cons (fo_val (fe_c pe_int (.int 8) (fun _ => rfl))) (fa_nil)))) rfl)) (fo_val (fe_c pe_int (.int 0) (fun _ => rfl))) (nomark _))) (fss_one (fs_set (ps_set (i := 12) sc_law.nd rfl (Or.inl rfl) (fe_call (pe_callS (ok__law_some T base) (hr.mono (by decide)) (by rfl) T.mg__law_some T.kp__law_some T.b__law_some (fun σ => passAt tk σ) (fa_cons (fo_pk (pv 1)) (fa_cons (fo_val (fe_fn (fn_lst (pe_lst (fa_cons (fo_val (fe_fn (fn_opL (opN_list _) (pe_callTy call_list_of (by rfl) T.b_list (by decide +kernel) (fa_cons (fo_pk (pv 12)) (fa_nil)))))) (fa_cons (fo_val (fe_c pe_non .non (fun _ => rfl))) (fa_cons (fo_val (fe_c pe_int (.int 0) (fun _ => rfl))) (fa_cons (fo_val (fe_c pe_str (.str "") (fun _ => rfl))) (fa_cons (fo_val (fe_emp pe_dnewK)) (fa_cons (fo_val (fe_call (pe_callS (ok__law_deep T base) (hr.mono (by decide)) (by rfl) T.mg__law_deep T.kp__law_deep T.b__law_deep (fun σ => passAt tk σ) (fa_cons (fo_val (fe_c pe_int (.int 0) (fun _ => rfl))) (fa_nil))) rfl)) (fa_cons (fo_val (fe_call (pe_callS (ok__law_deep T base) (hr.mono (by decide)) (by rfl) T.mg__law_deep T.kp__law_deep T.b__law_deep (fun σ => passAt tk σ) (fa_cons (fo_val (fe_c pe_int (.int 1) (fun _ => rfl))) (fa_nil))) rfl)) (fa_cons (fo_val (fe_op2 (op2_add _) (pe_op opr_add (fo_pk (pv 12)) (fo_pk (pv 12))))) (fa_nil))))))))))))) (fa_nil)))) rfl)))) (fss_nil)) (fss_one (fs_if (ft_not (ft_val (pt_val (fe_call (pe_callS (ok__law_is T base 8) (hr.mono (by decide)) (by rfl) T.mg__law_is T.kp__law_is T.b__law_is (fun σ => passAt tk σ) (fa_cons (fo_val (fe_call (pe_callS (ok__law_made T base) (hr.mono (by decide)) (by rfl) T.mg__law_made T.kp__law_made T.b__law_made (fun σ => passAt tk σ) (fa_cons (fo_val (fe_var (pv 13))) (fa_cons (fo_val (fe_var (pv 12))) (fa_nil)))) rfl)) (fa_cons (fo_val (fe_call (pe_callS (ok__law_part T base) (hr.mono (by decide)) (by rfl) T.mg__law_part T.kp__law_part T.b__law_part (fun σ => passAt tk σ) (fa_cons (fo_val (fe_var (pv 13))) (fa_cons (fo_val (fe_var (pv 12))) (fa_nil)))) rfl)) (fa_nil)))) rfl)))) (fss_one (fs_ret (fe_c pe_bl (.bl false) (fun _ => rfl)))) (fss_nil))))))))) (fss_cons (fs_if (ft_not (ft_val (pt_val (fe_call (pe_callS (ok__law_lines T base) (hr.mono (by decide)) (by rfl) T.mg__law_lines T.kp__law_lines T.b__law_lines (fun σ => passAt tk σ) (fa_cons (fo_val (fe_call (pe_callS (ok__law_some T base) (hr.mono (by decide)) (by rfl) T.mg__law_some T.kp__law_some T.b__law_some (fun σ => passAt tk σ) (fa_cons (fo_pk (pv 1)) (fa_cons (fo_val (fe_fn (fn_lst (pe_lst (fa_cons (fo_val (fe_c pe_int (.int 0) (fun _ => rfl))) (fa_cons (fo_val (fe_c pe_int (.int 1) (fun _ => rfl))) (fa_cons (fo_val (fe_c pe_int (.int 2) (fun _ => rfl))) (fa_cons (fo_val (fe_c pe_int (.int 30) (fun _ => rfl))) (fa_cons (fo_val (fe_c pe_int (.int 31) (fun _ => rfl))) (fa_cons (fo_val (fe_c pe_int (.int 60) (fun _ => rfl))) (fa_cons (fo_val (fe_call (pe_callS (ok__law_draw T base) (hr.mono (by decide)) (by rfl) T.mg__law_draw T.kp__law_draw T.b__law_draw (fun σ => passAt tk σ) (fa_cons (fo_pk (pv 1)) (fa_cons (fo_val (fe_c pe_int (.int 61) (fun _ => rfl))) (fa_nil)))) rfl)) (fa_nil)))))))))))) (fa_nil)))) rfl)) (fa_nil))) rfl)))) (fss_one (fs_ret (fe_c pe_bl (.bl false) (fun _ => rfl)))) (fss_nil)) (fss_cons (fs_asg (ps_asg (fe_tup (pe_tup (fa_cons (fo_val (fe_tup (pe_tup (fa_nil)))) (fa_cons (fo_val (fe_call (pe_callS (ok__law_some T base) (hr.mono (by decide)) (by rfl) T.mg__law_some T.kp__law_some T.b__law_some (fun σ => passAt tk σ) (fa_cons (fo_pk (pv 1)) (fa_cons (fo_val (fe_fn (fn_lst (pe_lst (fa_cons (fo_val (fe_c pe_int (.int 1) (fun _ => rfl))) (fa_cons (fo_val (fe_c pe_int (.int 2) (fun _ => rfl))) (fa_cons (fo_val (fe_c pe_int (.int 4) (fun _ => rfl))) (fa_nil)))))))) (fa_nil)))) rfl)) (fa_nil))))) (fg_tup rfl (fgs_cons (fg_name (pg_name (i := 5) sc_law.nd rfl (Or.inl rfl))) (fgs_cons (fg_name (pg_name (i := 6) sc_law.nd rfl (Or.inr rfl))) (fgs_nil))) rfl))) (fss_cons (fs_for (ps_for (passes_of rfl) rfl (fi_range1 (pi_range1 (by rfl) T.b_range (fa_cons (fo_val (fe_var (pv 2))) (fa_nil)))) (fg_name (pg_name (i := 7) sc_law.nd rfl (Or.inr rfl))) (fss_one (fs_set (ps_set (i := 5) sc_law.nd rfl (Or.inl rfl) (fe_op2 (op2_add _) (pe_op opr_add (fo_pk (pv 5)) (fo_val (fe_opL (opL_tuple _) (pe_callTy call_tuple_of (by rfl) T.b_tuple (by decide +kernel) (fa_cons (fo_val (fe_fn (fn_lc (pe_lc (own := [("other", 13)]) rfl sc_law.nd (fi_range2 (pi_range2 (by rfl) T.b_range (fa_cons (fo_val (fe_op2 (op2_add _) (pe_op opr_add (fo_pk (pv 7)) (fo_val (fe_c pe_int (.int 1) (fun _ => rfl)))))) (fa_cons (fo_val (fe_var (pv 2))) (fa_nil))))) (blkOk_by (N := N_law) (sc := defScope s_law) (by decide +kernel)) (fun _ _ _ _ _ => fgv_name (by decide) (pg_name (i := 13) sc_law.nd rfl (Or.inl rfl))) (fun _ _ _ _ _ => fts_one (ft_op2 (op2_eq _) (pt_cmpR (op_eqD hr.units) (fo_val (fe_call (pe_callS (ok__law_draw T base) (hr.mono (by decide)) (by rfl) T.mg__law_draw T.kp__law_draw T.b__law_draw (fun σ => passAt takes0 σ) (fa_cons (fo_pk (pv 1)) (fa_cons (fo_val (fe_var (pv 6))) (fa_nil)))) rfl)) (fo_val (fe_c pe_int (.int 0) (fun _ => rfl))) (nomark _)))) (fun _ _ _ _ _ => fe_tup (pe_tup (fa_cons (fo_val (fe_var (pv 7))) (fa_cons (fo_val (fe_var (pv 13))) (fa_nil))))))))) (fa_nil)))))))))))) (fss_cons (fs_set (ps_set (i := 8) sc_law.nd rfl (Or.inl rfl) (fe_op2 (op2_div _) (pe_op op_fdiv (fo_val (fe_c pe_int (.int 30) (fun _ => rfl))) (fo_val (fe_opL (opL_max2 _) (pe_callB (call_max2 rfl) (by rfl) T.b_max (by decide +kernel) (fa_cons (fo_val (fe_c pe_int (.int 1) (fun _ => rfl))) (fa_cons (fo_val (fe_opL (opL_len _) (pe_callB callr_len (by rfl) T.b_len (by decide +kernel) (fa_cons (fo_pk (pv 5)) (fa_nil))))) (fa_nil)))))))))) (fss_one (fs_ret (fe_call (pe_callS (ok__law_net T base) (hr.mono (by decide)) (by rfl) T.mg__law_net T.kp__law_net T.b__law_net (fun σ => passAt tk σ) (fa_cons (fo_val (fe_var (pv 2))) (fa_cons (fo_val (fe_var (pv 5))) (fa_cons (fo_val (fe_call (pe_callS (ok__law_some T base) (hr.mono (by decide)) (by rfl) T.mg__law_some T.kp__law_some T.b__law_some (fun σ => passAt tk σ) (fa_cons (fo_pk (pv 1)) (fa_cons (fo_val (fe_fn (fn_lst (pe_lst (fa_cons (fo_val (fe_c pe_int (.int 0) (fun _ => rfl))) (fa_cons (fo_val (fe_c pe_int (.int 1) (fun _ => rfl))) (fa_cons (fo_val (fe_c pe_int (.int 2) (fun _ => rfl))) (fa_cons (fo_val (fe_c pe_int (.int 3) (fun _ => rfl))) (fa_cons (fo_val (fe_c pe_int (.int 30) (fun _ => rfl))) (fa_cons (fo_val (fe_c pe_int (.int 60) (fun _ => rfl))) (fa_cons (fo_val (fe_var (pv 8))) (fa_cons (fo_val (fe_opL (opL_min2 _) (pe_callB (call_min2 rfl) (by rfl) T.b_min (by decide +kernel) (fa_cons (fo_val (fe_c pe_int (.int 60) (fun _ => rfl))) (fa_cons (fo_val (fe_op2 (op2_add _) (pe_op opr_add (fo_pk (pv 8)) (fo_val (fe_c pe_int (.int 1) (fun _ => rfl)))))) (fa_nil)))))) (fa_nil))))))))))))) (fa_nil)))) rfl)) (fa_nil))))) rfl)))))))))))))
end
end Law

namespace Law
open PySem PySem.Spec PyProof.Rows L2 FL
open Lean in
local macro_rules | `(tactic| walk_at $s:str) => do
  let ws := s.getString.splitOn " "
  match ws with
  | "run" :: r =>
    let xs : Array (TSyntax `Lean.Parser.Tactic.simpLemma) ← (r.filter (· != "")).toArray.mapM fun n => do
      let i : TSyntax `term := mkIdent n.toName
      `(Lean.Parser.Tactic.simpLemma| $i:term)
    `(tactic| simp only [x_val, x_bad, x_exc, x_Rsome, x_Rnone, x_ite, x_fPk, x_fVar, pkV_fz, pkV_own, pkV_bor, vrV_fz, vrV_own, get_v, get_pk, slC_fz, slC_own, slC_bor, x_fC, x_fV, x_fOp2, r2_ss, x_fAs0, x_fAs1, x_arGets0, x_arGets1, cons2_s, x_valsOf0, x_valsOf1, rL_s, x_fOpL, x_fOpV, x_fAnd, x_fOr, andK_t, andK_f, orK_t, orK_f, x_tAnd, x_tOr, x_tNot, x_tYes, tandK_t, tandK_f, torK_t, torK_f, x_fIf, ifK_t, ifK_f, x_fTest, asB_bl, x_fNot, x_fChain, chK_t, chK_f, x_fNx, x_fBrk, x_fCnt, x_fBad, x_seq, seqK_nx, seqK_rt, seqK_rn, seqK_bk, seqK_ct, loopK_nx, loopK_ct, loopK_bk, loopK_rt, loopK_rn, nxK_nx, lpK_nx, lpK_ct, lpK_bk, lpK_rt, lpK_rn, tsK_t, tsK_f, endK_nx, endK_rt, endM_rn, bakK_s, bk_nil', bk_fz', bk_bor', bCons_s, x_fDrop, x_fRet, x_fRetN, x_fRet0, x_fSet, x_fSetN, x_fPar, x_fParNE, x_fParEN, x_fAsg, x_asgK, someK_s, x_bName, x_bTup, x_bAll0, x_bAll1, x_obind, x_fFor, x_fLc, x_fCall, x_fCallN, calK_s, calM_s, retK_s, x_backK, runC_val, runN_new, lend0, lend_v1, lend_pk1, sCons2_s, lendS1_fz, lendS1_own, lendS1_bor, unl_pk, unl_pkno, unl_v, unl_nil, putO_fz, putO_own, putO_bor, x_fFld, rFld_s, x_fSl, rSl_s, x_pNone, x_pSome, asI_int, x_iAny, x_iRng, x_iZip, x_iEnum, x_fSetIx, rIx_own, rIx_bor, x_fMt, mtK_s, rMt_own, rMt_bor, x_fIsiT, x_fSetFld', rSF_bor, rSF_own, x_fMake, mkK_s, mkK2_s, x_fEqI, eqK_ins, eqR, eqK_tup, eqK_lst, eqK_non, eqK_int, eqK_str, eqK_bl, List.take_succ_cons, List.take_zero, cut_nat, cut_hi, cut_lo, cut_lohi, Int.zero_add, Int.cast_ofNat_Int, Int.natCast_zero, Int.natCast_one,
      List.length_cons, List.length_nil, List.cons_append, List.nil_append, List.replicate_succ, List.replicate_zero, List.getElem?_cons_zero, List.getElem?_cons_succ, List.set_cons_zero, List.set_cons_succ, Nat.reduceAdd, Nat.reduceSub, Nat.reduceMul, Nat.zero_add, Int.reduceAdd, Int.reduceSub, Int.reduceMul, Int.reduceNeg, Int.reducePow, Int.reduceLT, Int.reduceLE, Int.reduceEq, Int.reduceToNat, Nat.reducePow, Nat.reduceLT, Nat.reduceLeDiff,
      once_0, once_v, once_pk, pkIs_v, pkIs_pk, Nat.reduceBEq, sh_0, sh_fz', sh_bor', List.any_nil, List.any_cons, Bool.not_false, Bool.not_true, Bool.and_self, Bool.or_false, Bool.false_or, Bool.true_and, Bool.and_true, Bool.true_or, Bool.or_true, true_and, and_true, Bool.or_self, Bool.false_and, Bool.and_false, Bool.not_not,
      oAdd, oSub, oMul, oDiv, oMod, oLt, oLe, oGt, oGe, B64_def, x_ixL, x_ixT, x_slT, x_slL, x_slS, x_itT, x_itL, x_itS, x_itZT, x_itZL, x_itET, x_itEL, x_app, lD0, lD1, lD2, oD_n, oD_s, x_bTup3,  oLen, oInt, oEq_int, oNe_int, oEq_bl, oNe_bl, oIsN, oNotN, FL.isNon, Option.map_some, Option.map_none, atI_0, atI_1, atI_2, atI_3, atI_4, ixN_0, ixN_1, ixN_2, ixN_3, ixN_4, oTupD, oLstD, oTuple, oMin2, oMax2, oAbs, wipeE, restoreE, keepF, decide_true, decide_false, tIsi, tyName, tgs_int, tgs_bool, tgs_tuple, tgs_list, tgs_str, tgs_dict, st_NoneType_bool, st_NoneType_int, st_NoneType_str, st_NoneType_tuple, st_NoneType_list, st_NoneType_dict, st_bool_bool, st_bool_int, st_bool_str, st_bool_tuple, st_bool_list, st_bool_dict, st_int_bool, st_int_int, st_int_str, st_int_tuple, st_int_list, st_int_dict, st_str_bool, st_str_int, st_str_str, st_str_tuple, st_str_list, st_str_dict, st_tuple_bool, st_tuple_int, st_tuple_str, st_tuple_tuple, st_tuple_list, st_tuple_dict, st_list_bool, st_list_int, st_list_str, st_list_tuple, st_list_list, st_list_dict, st_dict_bool, st_dict_int, st_dict_str, st_dict_tuple, st_dict_list, st_dict_dict, rTL, tIsc, isc_ins, isc_non, isc_bl, isc_int, isc_str, isc_tup, isc_lst, isc_emp, ek_ins, ek_non, ek_bl, ek_int, ek_str, ek_tup, ek_lst, s_seq, seqS_nx, seqS_rt, seqS_rn, seqS_bk, seqS_ct, s_val, s_nx, ifS_t, ifS_f, xx_set, xx_setN, xx_ret, xx_drop, calX_s, exK_exc, s_try, x_try, excK_t, s_hRet, s_hSet, optK_s, bakX_s, xC, xFld, xIs, xAnd, xB, xAndB, xIf, x_fEmp, x_fPar3, x_fPar3N, x_fTupR, rTupR_s, x_fNeg, rNeg_s, x_ins, x_ext, x_fLc2, yesK_t, eq_self, reduceIte, reduceCtorEq, and_self, or_true, true_or, $xs,*])
  | "tgt" :: _ => `(tactic| simp only [x_bName, x_bTup, x_bTup3, x_bAll0, x_bAll1, x_obind, someK_s, Int.zero_add, List.set_cons_succ, List.set_cons_zero])
  | "spl" :: _ => `(tactic| ((with_reducible (first | refine tandK_if ?_ ?_ | refine torK_if ?_ ?_ | refine ifK_if ?_ ?_ | refine andK_if ?_ ?_ | refine orK_if ?_ ?_ | refine chK_if ?_ ?_ | refine tsK_if ?_ ?_ | refine ifS_if ?_ ?_)) <;> (intro hyp; (try simp only [Bool.and_eq_true, Bool.or_eq_true, Bool.and_eq_false_iff, Bool.or_eq_false_iff, beq_iff_eq, decide_eq_true_eq, decide_eq_false_iff_not, beq_eq_false_iff_ne, Bool.not_eq_true', Bool.not_eq_false', Bool.not_eq_true, Bool.not_eq_false, ne_eq, not_true_eq_false, not_false_eq_true, Bool.true_eq_false, Bool.false_eq_true] at hyp); try (exfalso; omega))))
  | "side" :: _ => `(tactic| (with_reducible refine And.intro (by first | omega | assumption | exact sl16 (by omega) | (refine And.intro ?_ ?_ <;> omega)) ?_))
  | "gos" :: _ => do
    let q := Syntax.mkStrLit ("run" ++ (s.getString.drop 3).toString)
    `(tactic| repeat' (first | walk_at $q:str | walk_at "spl" | walk_at "side" | walk_at "sx" | (with_reducible refine s_run ?_)))
  | "gox" :: _ => do
    let q := Syntax.mkStrLit ("run" ++ (s.getString.drop 3).toString)
    `(tactic| repeat' (first | walk_at $q:str | walk_at "spl" | walk_at "side" | walk_at "sx" | (with_reducible refine s_exc ?_)))
  | "sx" :: _ => `(tactic| (with_reducible first | refine s_if ?_ | refine s_raise ?_ | refine xx_call ?_ | refine xx_callN ?_ | refine xx_make ?_))
  | "go" :: _ => do
    let q := Syntax.mkStrLit ("run" ++ (s.getString.drop 2).toString)
    `(tactic| repeat' (first | walk_at $q:str | walk_at "spl" | walk_at "side"))
  | _ => Lean.Macro.throwUnsupported
theorem p18 : oPow (.int 10) (.int 18) = some (.int 1000000000000000000) := by rfl
/-! ## things -/
inductive Pl : D → Prop
  | non : Pl .non
  | bl (b : Bool) : Pl (.bl b)
  | int (i : Int) : Pl (.int i)
  | str (s : Str) : Pl (.str s)
  | emp : Pl .emp
  | tup (ds : List D) (hl : ds.length ≤ 1000) (h : ∀ d, d ∈ ds → Pl d) : Pl (.tup ds)
  | lst (ds : List D) (hl : ds.length ≤ 1000) (h : ∀ d, d ∈ ds → Pl d) : Pl (.lst ds)
def isI : D → Bool
  | .int _ => true
  | _ => false
def btw (d : D) (lo hi : Int) : Bool := match d with
  | .int x => decide (lo ≤ x) && decide (x ≤ hi)
  | _ => false
def szd (d : D) (lo hi : Int) : Bool := match d with
  | .tup ds => decide (lo ≤ ds.length) && decide ((ds.length : Int) ≤ hi)
  | _ => false
theorem btw_int {x lo hi : Int} : btw (.int x) lo hi = (decide (lo ≤ x) && decide (x ≤ hi)) := rfl
theorem e_is_integer {d : D} (p : Pl d) : sem_is_integer [.fz d] = .val (.bl (isI d)) [.no] := by
  refine fn_eq ?_
  cases p <;> walk_at "go body_is_integer" <;> simp [isI]
theorem e_is_between {d : D} (p : Pl d) (lo hi : Int) : sem_is_between [.fz d, .fz (.int lo), .fz (.int hi)] = .val (.bl (btw d lo hi)) [.no, .no, .no] := by
  have ei := e_is_integer p
  refine fn_eq ?_
  cases p <;> (unfold isI at ei; walk_at "go body_is_between ei btw") <;> simp [*]
theorem e_is_sized {d : D} (p : Pl d) (lo hi : Int) : sem_is_sized [.fz d, .fz (.int lo), .fz (.int hi)] = .val (.bl (szd d lo hi)) [.no, .no, .no] := by
  refine fn_eq ?_
  cases p with
  | tup ds hl h =>
    have hx : ds.length ≤ sizeLine := sl16 (by omega)
    walk_at "go body_is_sized hx szd" <;> simp [*]
  | _ => walk_at "go body_is_sized szd"
theorem e_lnum {d : D} (p : Pl d) (m : Int) : sem__law_is_number [.fz d, .fz (.int m)] = .val (.bl (btw d 0 (m - 1))) [.no, .no] := by
  refine fn_eq ?_
  cases p with
  | int i =>
    have : decide (i < m) = decide (i ≤ m - 1) := decide_eq_decide.mpr (by omega)
    walk_at "go body__law_is_number btw this" <;> simp [*]
  | _ => walk_at "go body__law_is_number btw"
def neI : D → D → Bool
  | .int i, .int j => !(i == j)
  | _, _ => false
def isL (m : Int) : D → Bool
  | .tup [a, b, c] => btw a 0 (m - 1) && (btw b 0 (m - 1) && (neI a b && btw c 0 999))
  | _ => false
theorem btw_ex {d : D} {lo hi : Int} (h : btw d lo hi = true) : ∃ x, d = .int x ∧ lo ≤ x ∧ x ≤ hi := by
  unfold btw at h
  split at h
  · simp at h; exact ⟨_, rfl, h.1, h.2⟩
  · cases h
theorem isL_len {m : Int} {ds : List D} (h : ds.length ≠ 3) : isL m (.tup ds) = false := by
  unfold isL
  split
  · rename_i e; cases e; simp at h
  · rfl
theorem e_is_letter {m : Int} {d : D} (p : Pl d) : sem_is_letter [.fz (.int m), .fz d] = .val (.bl (isL m d)) [.no, .no] := by
  have es := e_is_sized p 3 3
  refine fn_eq ?_
  cases p with
  | tup ds hl h =>
    by_cases h3 : ds.length = 3
    · match ds, h3 with
      | [a, b, c], _ =>
        have ea := e_is_between (h a (by simp)) 0 (m - 1)
        have eb := e_is_between (h b (by simp)) 0 (m - 1)
        have ec := e_is_between (h c (by simp)) 0 999
        have e3 : szd (.tup [a, b, c]) 3 3 = true := rfl
        rw [e3] at es
        by_cases ha : btw a 0 (m - 1) = true
        · by_cases hb : btw b 0 (m - 1) = true
          · obtain ⟨x, rfl, _, _⟩ := btw_ex ha
            obtain ⟨y, rfl, _, _⟩ := btw_ex hb
            rw [ha] at ea
            rw [hb] at eb
            walk_at "go body_is_letter es ea eb ec isL neI ha hb" <;> simp [*]
          · have hb : btw b 0 (m - 1) = false := by simpa using hb
            rw [ha] at ea
            rw [hb] at eb
            walk_at "go body_is_letter es ea eb ec isL ha hb"
        · have ha : btw a 0 (m - 1) = false := by simpa using ha
          rw [ha] at ea
          walk_at "go body_is_letter es ea eb ec isL ha"
    · have e3 : szd (.tup ds) 3 3 = false := by unfold szd; simp; omega
      rw [e3] at es
      have el := isL_len (m := m) h3
      walk_at "go body_is_letter es el"
  | _ => unfold szd at es; walk_at "go body_is_letter es isL"
theorem e_llet {m : Int} {d : D} (p : Pl d) : sem__law_is_letter [.fz (.int m), .fz d] = .val (.bl (isL m d)) [.no, .no] := by
  refine fn_eq ?_
  cases p with
  | tup ds hl h =>
    have hx : ds.length ≤ sizeLine := sl16 (by omega)
    by_cases h3 : ds.length = 3
    · match ds, h3 with
      | [a, b, c], _ =>
        have ea := e_lnum (h a (by simp)) m
        have eb := e_lnum (h b (by simp)) m
        have ec := e_lnum (h c (by simp)) 1000
        have s3 : (3 : Nat) ≤ sizeLine := sl16 (by omega)
        have i3 : ((3 : Nat) : Int) = 3 := rfl
        by_cases ha : btw a 0 (m - 1) = true
        · by_cases hb : btw b 0 (m - 1) = true
          · obtain ⟨x, rfl, _, _⟩ := btw_ex ha
            obtain ⟨y, rfl, _, _⟩ := btw_ex hb
            rw [ha] at ea
            rw [hb] at eb
            walk_at "go body__law_is_letter s3 i3 ea eb ec isL neI ha hb" <;> simp [*]
          · have hb : btw b 0 (m - 1) = false := by simpa using hb
            rw [ha] at ea
            rw [hb] at eb
            walk_at "go body__law_is_letter s3 i3 ea eb ec isL ha hb"
        · have ha : btw a 0 (m - 1) = false := by simpa using ha
          rw [ha] at ea
          walk_at "go body__law_is_letter s3 i3 ea eb ec isL ha"
    · have el := isL_len (m := m) h3
      have hn : ((ds.length : Int) == 3) = false := by simp; omega
      walk_at "go body__law_is_letter hx hn el"
  | _ => walk_at "go body__law_is_letter isL"

/-! ## draws -/
def HandD (d : D) : Prop := ∃ (cells : List Int) (i : Nat) (b s c : Int), cells.length ≤ 63 ∧ d = .lst [.lst (cells.map .int), .int i, .int b, .int s, .int c]
theorem draw_ok {h : D} {k : Nat} {m : Int} (hh : HandD h) (h0 : 0 < m) (h1 : m < 1073741824) : wpF (sem__law_draw [.bor k h, .fz (.int m)]) (fun d bs => ∃ r h', d = .int r ∧ bs = [.bor k h', .no] ∧ HandD h' ∧ 0 ≤ r ∧ r < m) := by
  obtain ⟨cells, i, b, s, c, hc, rfl⟩ := hh
  have hs : cells.length ≤ sizeLine := sl16 (by omega)
  have m0 : ∀ x : Int, 0 ≤ x % m := fun x => Int.emod_nonneg x (by omega)
  have m1 : ∀ x : Int, x % m < m := fun x => Int.emod_lt_of_pos x h0
  have fin : ∀ (x : Int) (j : Nat) (b s c : Int), ∃ r h', D.int (x % m) = .int r ∧ [Sl.bor k (D.lst [D.lst (List.map D.int cells), D.int j, D.int b, D.int s, D.int c]), Sl.no] = [.bor k h', .no] ∧ HandD h' ∧ 0 ≤ r ∧ r < m :=
    fun x j b s c => ⟨_, _, rfl, rfl, ⟨cells, j, b, s, c, hc, rfl⟩, m0 x, m1 x⟩
  refine fn_run ?_
  walk_at "go body__law_draw p18 List.length_map hs"
  all_goals first | exact fin _ _ _ _ _ | skip
  rename_i hb hi
  obtain ⟨x, hx⟩ : ∃ x, cells[i]? = some x := ⟨_, List.getElem?_eq_getElem (by omega)⟩
  have gx : atI (cells.map D.int) (i : Int) = some (.int x) := by rw [atI_nat', List.getElem?_map, hx]; rfl
  walk_at "go gx p18 List.length_map hs"
  all_goals first | exact fin _ (i + 1) _ _ _ | skip
theorem some_ok {h : D} {k : Nat} {xs : List D} (hh : HandD h) (h0 : 0 < xs.length) (h1 : xs.length ≤ 1000000) : wpF (sem__law_some [.bor k h, .fz (.lst xs)]) (fun d bs => ∃ h', d ∈ xs ∧ bs = [.bor k h', .no] ∧ HandD h') := by
  have hs : xs.length ≤ sizeLine := sl16 h1
  refine fn_run ?_
  walk_at "go body__law_some hs"
  refine call_by (draw_ok hh (by omega) (by omega)) ?_
  rintro d bs ⟨r, h', rfl, rfl, hh', r0, r1⟩
  obtain ⟨x, hx⟩ : ∃ x, xs[r.toNat]? = some x := ⟨_, List.getElem?_eq_getElem (by omega)⟩
  have gx : atI xs r = some x := atI_get r0 hx
  walk_at "go gx"
  exact ⟨h', List.mem_of_getElem? hx, rfl, hh'⟩
theorem hand_ok {ns : List Int} (h : ns.length ≤ 63) : wpN (sem__law_hand [.fz (.scr ns)]) (fun d bs => HandD d ∧ bs = [.no]) := by
  have hs : ns.length ≤ sizeLine := sl16 (by omega)
  have ht : List.take 63 ns = ns := List.take_of_length_le h
  have l5 : (5 : Nat) ≤ sizeLine := sl16 (by omega)
  have hm : (List.map (fun i : Int => D.int (if i < 0 then -i else i)) ns).length ≤ sizeLine := by rw [List.length_map]; exact hs
  refine fn_runN ?_
  walk_at "go body__law_hand take_map' ht"
  refine lc_fun (k := D.int) hs (fun i => .int (if i < 0 then -i else i)) (fun x _ => ?_) ?_
  · walk_at "go"
  · walk_at "go take_map' ht hm l5"
    exact ⟨ns.map fun i : Int => if i < 0 then -i else i, 0, 0, _, 0, by simpa using h, by simp [List.map_map]; rfl⟩
/-! ## letters -/
structure LetOk (many : Int) (l : L3) : Prop where
  a0 : 0 ≤ l.1
  a1 : l.1 < many
  b0 : 0 ≤ l.2.1
  b1 : l.2.1 < many
  ne : l.1 ≠ l.2.1
  t0 : 0 ≤ l.2.2
  t1 : l.2.2 ≤ 999
abbrev Rises (ls : List L3) : Prop := ls.Pairwise fun a b => a.2.2 ≤ b.2.2
structure SchOk (many : Int) (ls : List L3) : Prop where
  m0 : 2 ≤ many
  m1 : many ≤ 8
  le : ls.length ≤ 60
  ok : ∀ l, l ∈ ls → LetOk many l
  up : Rises ls
  nd : ls.Nodup
def schD (many letters : D) : D := .ins 0 ["many", "letters"] [many, letters]
def lets (ls : List L3) : D := .tup (ls.map lD)
theorem isL_ex {m : Int} {d : D} (h : isL m d = true) : ∃ l, d = lD l ∧ LetOk m l := by
  unfold isL at h
  split at h
  · simp only [Bool.and_eq_true] at h
    obtain ⟨ha, hb, hn, hc⟩ := h
    obtain ⟨x, rfl, x0, x1⟩ := btw_ex ha
    obtain ⟨y, rfl, y0, y1⟩ := btw_ex hb
    obtain ⟨z, rfl, z0, z1⟩ := btw_ex hc
    exact ⟨(x, y, z), rfl, ⟨x0, by simp only; omega, y0, by simp only; omega, by simpa [neI] using hn, z0, z1⟩⟩
  · cases h
theorem isL_of {m : Int} {l : L3} (h : LetOk m l) : isL m (lD l) = true := by
  obtain ⟨x, y, z⟩ := l
  obtain ⟨a0, a1, b0, b1, ne, t0, t1⟩ := h
  simp only at a0 a1 b0 b1 ne t0 t1
  simp [isL, lD, btw, neI]
  omega
theorem pl_lD (l : L3) : Pl (lD l) := .tup _ (by simp) fun d hd => by
  simp only [List.mem_cons, List.not_mem_nil, or_false] at hd
  rcases hd with rfl | rfl | rfl <;> exact .int _
theorem pl_lets {ls : List L3} (h : ls.length ≤ 1000) : Pl (lets ls) := .tup _ (by simpa using h) fun d hd => by
  obtain ⟨l, _, rfl⟩ := List.mem_map.mp hd
  exact pl_lD l
/-- the letter of a D that is one -/
def unL : D → L3
  | .tup [.int a, .int b, .int c] => (a, b, c)
  | _ => (0, 0, 0)
theorem unL_lD {l : L3} : unL (lD l) = l := rfl
def late (pre : List L3) (l : L3) : Bool := match pre.getLast? with
  | some p => decide (l.2.2 < p.2.2)
  | none => false
/-- the first that can't stand -/
def fb (m : Int) : List L3 → List D → Option Nat
  | _, [] => none
  | pre, d :: ds => if isL m d = true then (if unL d ∈ pre ∨ late pre (unL d) = true then some pre.length else fb m (pre ++ [unL d]) ds) else some pre.length
def nD : Option Nat → D
  | none => .non
  | some n => .int (n : Nat)
theorem late_at {pre r : List D} {ps : List L3} {l : L3} (hp : pre = ps.map lD) (h : 0 < ps.length) : ∃ y : L3, atI (pre ++ r) ((ps.length : Int) - 1) = some (lD y) ∧ late ps l = decide (l.2.2 < y.2.2) := by
  subst hp
  obtain ⟨y, hy⟩ : ∃ y, ps[ps.length - 1]? = some y := ⟨_, List.getElem?_eq_getElem (by omega)⟩
  refine ⟨y, ?_, ?_⟩
  · rw [atI_pos (by omega), show ((ps.length : Int) - 1).toNat = ps.length - 1 by omega, List.getElem?_append_left (by rw [List.length_map]; omega), List.getElem?_map, hy]; rfl
  · unfold late
    rw [List.getLast?_eq_getElem?, hy]
theorem e_first_wrong {m : Int} {ds : List D} (p : ∀ d, d ∈ ds → Pl d) (hl : ds.length ≤ 1000) : sem_first_wrong [.fz (.int m), .fz (.tup ds)] = .val (nD (fb m [] ds)) [.no, .no] := by
  refine fn_eq ?_
  have hm : enumD 0 ds = enumD 0 (ds.map fun x => x) := by simp
  walk_at "go body_first_wrong hm"
  refine for_enum (fun n r E => ∃ (pre : List L3) (s2 s3 : Sl), ds = pre.map lD ++ r ∧ pre.length = n ∧ fb m [] ds = fb m pre r ∧ E = [.fz (.int m), .fz (.tup ds), s2, s3]) ⟨[], _, _, rfl, rfl, rfl, rfl⟩ ?_ ?_
  · rintro n x r E ⟨pre, s2, s3, e, rfl, hf, rfl⟩
    have px : Pl x := p x (by rw [e]; simp)
    have e1 := e_is_letter (m := m) px
    have tk : ds.take pre.length = pre.map lD := by rw [e, List.take_append_of_le_length (by simp), List.take_of_length_le (by simp)]
    rw [fb] at hf
    by_cases hx : isL m x = true
    · obtain ⟨l, rfl, lo⟩ := isL_ex hx
      rw [hx] at e1
      rw [if_pos hx, unL_lD] at hf
      have e2 := Enc.oInT Enc.l3 (by omega) l pre
      have i2 := lD2 (l := l)
      have bad : (l ∈ pre ∨ late pre l = true) → nD (fb m [] ds) = .int pre.length := fun hb => by rw [hf, if_pos hb]; rfl
      have good : ¬ (l ∈ pre ∨ late pre l = true) → ∃ (pre' : List L3) (s2 s3 : Sl), ds = pre'.map lD ++ r ∧ pre'.length = pre.length + 1 ∧ fb m [] ds = fb m pre' r ∧ [Sl.fz (.int m), .fz (.tup ds), .fz (.int pre.length), .fz (lD l)] = [Sl.fz (.int m), .fz (.tup ds), s2, s3] := fun hg =>
        ⟨pre ++ [l], _, _, by simp [e], by simp, by rw [hf, if_neg hg], rfl⟩
      walk_at "go e1 e2 tk i2"
      · rename_i h1; exact (bad (.inl h1)).symm
      · rename_i h1 h2
        obtain ⟨y, hy, hlt⟩ := late_at (r := lD l :: r) (l := l) (ps := pre) rfl (by omega)
        rw [← e] at hy
        have j2 := lD2 (l := y)
        walk_at "go hy j2"
        · rename_i h3; exact (bad (.inr (by rw [hlt]; simpa using h3))).symm
        · rename_i h3; exact good (by rintro (h | h); exact h1 h; rw [hlt] at h; simp at h; omega)
      · rename_i h1 h2
        refine good ?_
        rintro (h | h)
        · exact h1 h
        · have : pre = [] := List.length_eq_zero_iff.mp (by omega)
          subst this; simp [late] at h
    · have hx' : isL m x = false := by simpa using hx
      rw [hx'] at e1
      rw [if_neg hx] at hf
      walk_at "go e1"
      rw [hf]; rfl
  · rintro n E ⟨pre, s2, s3, e, rfl, hf, rfl⟩
    walk_at "go"
    rw [hf]; rfl

/-! ## judging -/
/-- the part that is wrong -/
def judge (many letters : D) : Option D := match many with
  | .int m => if 2 ≤ m ∧ m ≤ 8 then (match letters with
    | .tup ds => if ds.length ≤ 60 then (match fb m [] ds with
      | some n => some (.int (n : Nat))
      | none => none) else some (.str "letters")
    | _ => some (.str "letters")) else some (.str "many")
  | _ => some (.str "many")
def partD (many letters : D) : D := match judge many letters with
  | some d => d
  | none => .str "let"
theorem rises_snoc {pre : List L3} {l : L3} (h : Rises pre) (hl : late pre l = false) : Rises (pre ++ [l]) := by
  refine List.pairwise_append.mpr ⟨h, List.pairwise_singleton .., fun a ha b hb => ?_⟩
  cases List.mem_singleton.mp hb
  unfold late at hl
  cases e : pre.getLast? with
  | none => rw [List.getLast?_eq_none_iff] at e; subst e; simp at ha
  | some p =>
    rw [e] at hl
    simp at hl
    obtain ⟨pre', rfl⟩ : ∃ q, pre = q ++ [p] := List.getLast?_eq_some_iff.mp e
    rw [Rises, List.pairwise_append] at h
    rcases List.mem_append.mp ha with ha | ha
    · have := h.2.2 a ha p (by simp); omega
    · cases List.mem_singleton.mp ha; omega
theorem fb_none {m : Int} : ∀ {ds : List D} {pre : List L3}, fb m pre ds = none → (∀ l, l ∈ pre → LetOk m l) → Rises pre → pre.Nodup → ∃ ls, ds = ls.map lD ∧ (∀ l, l ∈ pre ++ ls → LetOk m l) ∧ Rises (pre ++ ls) ∧ (pre ++ ls).Nodup
  | [], pre, _, h1, h2, h3 => ⟨[], rfl, by simpa using h1, by simpa using h2, by simpa using h3⟩
  | d :: ds, pre, h, h1, h2, h3 => by
    rw [fb] at h
    by_cases hx : isL m d = true
    · obtain ⟨l, rfl, lo⟩ := isL_ex hx
      rw [if_pos hx, unL_lD] at h
      by_cases hb : l ∈ pre ∨ late pre l = true
      · rw [if_pos hb] at h; cases h
      · rw [if_neg hb] at h
        have n1 : l ∉ pre := fun z => hb (.inl z)
        have n2 : late pre l = false := by
          cases z : late pre l with
          | false => rfl
          | true => exact (hb (.inr z)).elim
        obtain ⟨ls, e, q1, q2, q3⟩ := fb_none (ds := ds) (pre := pre ++ [l]) h (fun a ha => by
            rcases List.mem_append.mp ha with ha | ha
            · exact h1 a ha
            · cases List.mem_singleton.mp ha; exact lo) (rises_snoc h2 n2) (by
            rw [List.nodup_append]
            exact ⟨h3, List.nodup_cons.mpr ⟨by simp, List.nodup_nil⟩, fun a ha b hb => by cases List.mem_singleton.mp hb; exact fun z => n1 (z ▸ ha)⟩)
        exact ⟨l :: ls, by rw [e]; rfl, by simpa using q1, by simpa using q2, by simpa using q3⟩
    · rw [if_neg hx] at h; cases h
theorem fb_ok {m : Int} : ∀ {ls pre : List L3}, (∀ l, l ∈ pre ++ ls → LetOk m l) → Rises (pre ++ ls) → (pre ++ ls).Nodup → fb m pre (ls.map lD) = none
  | [], _, _, _, _ => rfl
  | l :: ls, pre, h1, h2, h3 => by
    rw [List.map_cons, fb, if_pos (isL_of (h1 l (by simp))), unL_lD, if_neg, fb_ok (ls := ls) (pre := pre ++ [l]) (by simpa using h1) (by simpa using h2) (by simpa using h3)]
    rintro (h | h)
    · rw [List.nodup_append] at h3
      exact h3.2.2 l h l (by simp) rfl
    · unfold late at h
      cases e : pre.getLast? with
      | none => rw [e] at h; cases h
      | some p =>
        rw [e] at h
        simp at h
        have : p ∈ pre := List.mem_of_getLast? e
        rw [Rises, List.pairwise_append] at h2
        have := h2.2.2 p this l (by simp)
        omega
theorem judge_none {many letters : D} (h : judge many letters = none) : ∃ m ls, many = .int m ∧ letters = lets ls ∧ SchOk m ls := by
  unfold judge at h
  cases many with
  | int m =>
    simp only at h
    by_cases hm : 2 ≤ m ∧ m ≤ 8
    · rw [if_pos hm] at h
      cases letters with
      | tup ds =>
        simp only at h
        by_cases hl : ds.length ≤ 60
        · rw [if_pos hl] at h
          cases hf : fb m [] ds with
          | some n => rw [hf] at h; cases h
          | none =>
            obtain ⟨ls, rfl, q1, q2, q3⟩ := fb_none hf (by simp) List.Pairwise.nil List.nodup_nil
            exact ⟨m, ls, rfl, rfl, hm.1, hm.2, by simpa using hl, by simpa using q1, by simpa using q2, by simpa using q3⟩
        · rw [if_neg hl] at h; cases h
      | _ => cases h
    · rw [if_neg hm] at h; cases h
  | _ => cases h
theorem judge_ok {m : Int} {ls : List L3} (h : SchOk m ls) : judge (.int m) (lets ls) = none := by
  have := fb_ok (m := m) (ls := ls) (pre := []) (by simpa using h.ok) (by simpa using h.up) (by simpa using h.nd)
  have h0 := h.m0
  have h1 := h.m1
  have h2 := h.le
  simp [judge, lets, this, h0, h1, h2]
theorem judge_many {many letters : D} (h : btw many 2 8 = false) : judge many letters = some (.str "many") := by
  unfold judge
  split
  · rename_i m
    rw [btw_int] at h
    rw [if_neg]
    simp at h
    omega
  · rfl
theorem judge_lets {m : Int} {letters : D} (h0 : 2 ≤ m ∧ m ≤ 8) (h : szd letters 0 60 = false) : judge (.int m) letters = some (.str "letters") := by
  unfold judge
  simp only
  rw [if_pos h0]
  split
  · rw [if_neg]
    unfold szd at h
    simp at h
    omega
  · rfl
theorem judge_fb {m : Int} {ds : List D} (h0 : 2 ≤ m ∧ m ≤ 8) (h : ds.length ≤ 60) : judge (.int m) (.tup ds) = (fb m [] ds).map fun n => .int (n : Nat) := by
  unfold judge
  simp only
  rw [if_pos h0, if_pos h]
  cases fb m [] ds <;> rfl
theorem szd_ex {d : D} (h : szd d 0 60 = true) : ∃ ds, d = .tup ds ∧ ds.length ≤ 60 := by
  unfold szd at h
  split at h
  · exact ⟨_, rfl, by simp at h; omega⟩
  · cases h
theorem lk_many {a b : D} : lookD "many" ["many", "letters"] [a, b] = some a := by rfl
theorem lk_letters {a b : D} : lookD "letters" ["many", "letters"] [a, b] = some b := by rfl
theorem pn1 : putN "many" [] = (["many"] : List Str) := by rfl
theorem pd1 {d : D} : putD "many" d [] [] = [d] := by rfl
theorem pn2 : putN "letters" ["many"] = (["many", "letters"] : List Str) := by rfl
theorem pd2 {d e : D} : putD "letters" d ["many"] [e] = [e, d] := by rfl
theorem pl_mem {ds : List D} (p : Pl (.tup ds)) : ∀ d, d ∈ ds → Pl d := by
  cases p; assumption
theorem pl_len {ds : List D} (p : Pl (.tup ds)) : ds.length ≤ 1000 := by
  cases p; assumption
theorem e_init {many letters : D} {k : Nat} (pm : Pl many) (pl : Pl letters) (h : judge many letters = none) : sem_Schedule___init__ [.bor k (.ins 0 [] []), .fz many, .fz letters] = .val .non [.bor k (schD many letters), .no, .no] := by
  obtain ⟨m, ls, rfl, rfl, so⟩ := judge_none h
  have h0 := so.m0
  have h1 := so.m1
  have h2 := so.le
  have e1 := e_is_between pm 2 8
  have e2 := e_is_sized pl 0 60
  have e3 := e_first_wrong (m := m) (pl_mem pl) (pl_len pl)
  rw [fb_ok (by simpa using so.ok) (by simpa using so.up) (by simpa using so.nd)] at e3
  rw [btw_int, decide_eq_true h0, decide_eq_true h1] at e1
  unfold lets szd at e2
  simp only at e2
  rw [decide_eq_true (by omega), decide_eq_true (by rw [List.length_map]; omega)] at e2
  refine fn_eq ?_
  walk_at "go body_Schedule___init__ lets e1 e2 e3 pn1 pd1 pn2 pd2 schD nD"
theorem e_init_x {many letters d : D} {k : Nat} (pm : Pl many) (pl : Pl letters) (h : judge many letters = some d) : sem_Schedule___init__ [.bor k (.ins 0 [] []), .fz many, .fz letters] = .exc 1 (some ("part", d)) [.bor k (.ins 0 [] []), .no, .no] := by
  have e1 := e_is_between pm 2 8
  have e2 := e_is_sized pl 0 60
  refine fn_exc ?_
  by_cases hb : btw many 2 8 = true
  · obtain ⟨m, rfl, m0, m1⟩ := btw_ex hb
    rw [hb] at e1
    by_cases hs : szd letters 0 60 = true
    · obtain ⟨ds, rfl, hl⟩ := szd_ex hs
      rw [hs] at e2
      rw [judge_fb ⟨m0, m1⟩ hl] at h
      have e3 := e_first_wrong (m := m) (pl_mem pl) (pl_len pl)
      cases z : fb m [] ds with
      | none => rw [z] at h; cases h
      | some n =>
        rw [z] at h e3
        cases h
        walk_at "gos body_Schedule___init__ e1 e2 e3 nD"
    · have hs : szd letters 0 60 = false := by simpa using hs
      rw [hs] at e2
      rw [judge_lets ⟨m0, m1⟩ hs] at h
      cases h
      walk_at "gos body_Schedule___init__ e1 e2"
  · have hb : btw many 2 8 = false := by simpa using hb
    rw [hb] at e1
    rw [judge_many hb] at h
    cases h
    walk_at "gos body_Schedule___init__ e1"

theorem e_part {many letters : D} (pm : Pl many) (pl : Pl letters) : sem__law_part [.fz many, .fz letters] = .val (partD many letters) [.no, .no] := by
  have e1 := e_lnum pm 9
  refine fn_eq ?_
  cases many with
  | int m =>
    by_cases hm : 2 ≤ m ∧ m ≤ 8
    · have hb : btw (.int m) 0 (9 - 1) = true := by rw [btw_int, decide_eq_true (by omega), decide_eq_true (by omega)]; rfl
      rw [hb] at e1
      cases pl with
      | tup ds hl p =>
        have hx : ds.length ≤ sizeLine := sl16 (by omega)
        have pp : Pl (.tup ds) := .tup ds hl p
        by_cases h60 : ds.length ≤ 60
        · have hr := itR_nat (n := ds.length) (by omega)
          have hj : partD (.int m) (.tup ds) = (match fb m [] ds with
            | some n => .int (n : Nat)
            | none => .str "let") := by
            unfold partD
            rw [judge_fb hm h60]
            cases fb m [] ds <;> rfl
          rw [hj]
          walk_at "go body__law_part e1 hx hr"
          refine for_rng (fun n E => ∃ (pre : List L3) (r : List D) (s2 : Sl), ds = pre.map lD ++ r ∧ pre.length = n ∧ fb m [] ds = fb m pre r ∧ E = [.fz (.int m), .fz (.tup ds), s2]) ⟨[], ds, _, rfl, rfl, rfl, rfl⟩ ?_ ?_
          · rintro n E hn ⟨pre, r, s2, e, rfl, hf, rfl⟩
            cases r with
            | nil => rw [e] at hn; simp at hn
            | cons x r =>
              have px : Pl x := p x (by rw [e]; simp)
              have e2 := e_llet (m := m) px
              have tk : ds.take pre.length = pre.map lD := by rw [e, List.take_append_of_le_length (by simp), List.take_of_length_le (by simp)]
              have gx : atI ds (pre.length : Int) = some x := by
                rw [atI_nat', e, List.getElem?_append_right (by simp)]; simp
              rw [fb] at hf
              by_cases hx : isL m x = true
              · obtain ⟨l, rfl, lo⟩ := isL_ex hx
                rw [hx] at e2
                rw [if_pos hx, unL_lD] at hf
                have e3 := Enc.oInT Enc.l3 (by omega) l pre
                have i2 := lD2 (l := l)
                have bad : (l ∈ pre ∨ late pre l = true) → (match fb m [] ds with
                  | some n => .int (n : Nat)
                  | none => .str "let") = D.int pre.length := fun hb => by rw [hf, if_pos hb]
                have good : ¬ (l ∈ pre ∨ late pre l = true) → ∃ (pre' : List L3) (r' : List D) (s2 : Sl), ds = pre'.map lD ++ r' ∧ pre'.length = pre.length + 1 ∧ fb m [] ds = fb m pre' r' ∧ [Sl.fz (.int m), .fz (.tup ds), .fz (.int pre.length)] = [Sl.fz (.int m), .fz (.tup ds), s2] := fun hg =>
                  ⟨pre ++ [l], r, _, by simp [e], by simp, by rw [hf, if_neg hg], rfl⟩
                walk_at "go e2 gx i2 tk e3"
                · rename_i h2
                  obtain ⟨y, hy, hlt⟩ := late_at (r := lD l :: r) (l := l) (ps := pre) rfl (by omega)
                  rw [← e] at hy
                  have j2 := lD2 (l := y)
                  walk_at "go hy j2 gx e3 tk"
                  all_goals first
                    | exact (bad (.inl (by assumption))).symm
                    | exact (bad (.inr (by rw [hlt]; exact decide_eq_true (by omega)))).symm
                    | exact good (by rintro (h | h); exact absurd h (by assumption); rw [hlt] at h; have h := of_decide_eq_true h; omega)
                · rename_i h2 h3; exact (bad (.inl h3)).symm
                · rename_i h2 h3
                  refine good ?_
                  rintro (h | h)
                  · exact h3 h
                  · have : pre = [] := List.length_eq_zero_iff.mp (by omega)
                    subst this; simp [late] at h
              · have hx' : isL m x = false := by simpa using hx
                rw [hx'] at e2
                rw [if_neg hx] at hf
                walk_at "go e2 gx"
                rw [hf]
          · rintro E ⟨pre, r, s2, e, hn, hf, rfl⟩
            have : r = [] := by
              have := congrArg List.length e
              rw [List.length_append, List.length_map] at this
              exact List.length_eq_zero_iff.mp (by omega)
            subst this
            walk_at "go"
            rw [hf]; rfl
        · have hj : partD (.int m) (.tup ds) = .str "letters" := by
            unfold partD; rw [judge_lets hm]; unfold szd; simp; omega
          rw [hj]
          walk_at "go body__law_part e1 hx"
      | _ =>
        have hj : ∀ d : D, szd d 0 60 = false → partD (.int m) d = .str "letters" := fun d hd => by
          unfold partD; rw [judge_lets hm hd]
        rw [hj _ rfl]
        walk_at "go body__law_part e1"
    · have hj : partD (.int m) letters = .str "many" := by
        unfold partD; rw [judge_many]; rw [btw_int]; simp; omega
      rw [hj]
      by_cases hb : btw (.int m) 0 (9 - 1) = true
      · rw [hb] at e1
        rw [btw_int] at hb
        simp at hb
        walk_at "go body__law_part e1"
      · have hb : btw (.int m) 0 (9 - 1) = false := by simpa using hb
        rw [hb] at e1
        walk_at "go body__law_part e1"
  | _ =>
    have hj : ∀ d : D, btw d 2 8 = false → partD d letters = .str "many" := fun d hd => by
      unfold partD; rw [judge_many hd]
    rw [hj _ rfl]
    unfold btw at e1
    walk_at "go body__law_part e1"
/-! ## equal also in kind -/
abbrev IsT (n : Nat) (d : D) : Prop := sem__law_is n [.fz d, .fz d] = .val (.bl true) [.no, .no]
theorem e_is_int (n : Nat) (a b : Int) : sem__law_is (n + 1) [.fz (.int a), .fz (.int b)] = .val (.bl (a == b)) [.no, .no] := by
  refine fn_eq ?_
  walk_at "go body__law_is"
theorem is_int (n : Nat) (a : Int) : IsT (n + 1) (.int a) := by
  have := e_is_int n a a
  simpa using this
theorem is_str {n : Nat} {s : Str} (h : oEq (.str s) (.str s) = some (.bl true)) : IsT (n + 1) (.str s) := by
  refine fn_eq ?_
  walk_at "go body__law_is h"
theorem is_tup {n : Nat} {xs : List D} (hl : xs.length ≤ 1000) (h : ∀ x, x ∈ xs → IsT (n + 1) x) : IsT (n + 2) (.tup xs) := by
  have hx : xs.length ≤ sizeLine := sl16 (by omega)
  have hr := itR_nat (n := xs.length) (by omega)
  refine fn_eq ?_
  walk_at "go body__law_is hx hr"
  refine lc_rng hx (fun i acc E => acc = (List.range i).map (fun _ => D.bl true) ∧ E = [.fz (.tup xs), .fz (.tup xs), .no]) ?_ ?_ ?_
  · exact ⟨rfl, rfl⟩
  · rintro i acc E hi ⟨rfl, rfl⟩
    have gx : atI xs (i : Int) = some xs[i] := by rw [atI_nat', List.getElem?_eq_getElem hi]
    have hh : sem__law_is (n + 1) [.fz xs[i], .fz xs[i]] = .val (.bl true) [.no, .no] := h xs[i] (List.getElem_mem hi)
    walk_at "go gx hh"
    rw [List.range_succ, List.map_append]; rfl
  · rintro acc E2 ⟨rfl, rfl⟩
    have ha := oAll_map (f := fun _ : Nat => true) (xs := List.range xs.length)
    walk_at "go ha"
    simp
theorem is_lD (n : Nat) (l : L3) : IsT (n + 2) (lD l) := is_tup (by simp) fun d hd => by
  simp only [List.mem_cons, List.not_mem_nil, or_false] at hd
  rcases hd with rfl | rfl | rfl <;> exact is_int n _
theorem is_lets (n : Nat) {ls : List L3} (h : ls.length ≤ 1000) : IsT (n + 3) (lets ls) := is_tup (by simpa using h) fun d hd => by
  obtain ⟨l, _, rfl⟩ := List.mem_map.mp hd
  exact is_lD n l

theorem dEq_str {s t : Str} (h : PyData.strOk s = true) (h2 : PyData.strOk t = true) : dEq (.str s) (.str t) = some (s == t) := by
  have a : SeqAt.shaped (PyData.str s) = true := by unfold SeqAt.shaped PyData.canLay0; rw [h]; rfl
  have b : SeqAt.shaped (PyData.str t) = true := by unfold SeqAt.shaped PyData.canLay0; rw [h2]; rfl
  show (if SeqAt.shaped (PyData.str s) = true ∧ SeqAt.shaped (PyData.str t) = true then some (PyData.eqv (PyData.str s) (PyData.str t)) else none) = _
  rw [if_pos ⟨a, b⟩]; unfold PyData.eqv; rfl
theorem oEq_self {s : Str} (h : PyData.strOk s = true) : oEq (.str s) (.str s) = some (.bl true) := by unfold oEq; rw [dEq_str h h]; simp
theorem oNe_self {s : Str} (h : PyData.strOk s = true) : oNe (.str s) (.str s) = some (.bl false) := by unfold oNe; rw [dEq_str h h]; simp
theorem ok_let : PyData.strOk "let" = true := by decide +kernel
theorem ok_letters : PyData.strOk "letters" = true := by decide +kernel
theorem ok_many : PyData.strOk "many" = true := by decide +kernel
theorem partD_cases (many letters : D) : (∃ i : Int, partD many letters = .int i) ∨ (∃ s : Str, partD many letters = .str s ∧ PyData.strOk s = true) := by
  unfold partD
  cases z : judge many letters with
  | none => exact .inr ⟨_, rfl, ok_let⟩
  | some d =>
    unfold judge at z
    split at z
    · split at z
      · split at z
        · split at z
          · split at z
            · cases z; exact .inl ⟨_, rfl⟩
            · cases z
          · cases z; exact .inr ⟨_, rfl, ok_letters⟩
        · cases z; exact .inr ⟨_, rfl, ok_letters⟩
      · cases z; exact .inr ⟨_, rfl, ok_many⟩
    · cases z; exact .inr ⟨_, rfl, ok_many⟩
theorem e_made {many letters : D} (pm : Pl many) (pl : Pl letters) : sem__law_made [.fz many, .fz letters] = .val (partD many letters) [.no, .no] := by
  refine fn_eq ?_
  cases z : judge many letters with
  | some d =>
    have e1 := e_init_x (k := 0) pm pl z
    have hp : partD many letters = d := by unfold partD; rw [z]
    rw [hp]
    walk_at "gox body__law_made"
    walk_at "gox e1 tst_BadSchedule tst_TalkError tst_ValueError"
  | none =>
    obtain ⟨m, ls, rfl, rfl, so⟩ := judge_none z
    have hle := so.le
    have e1 := e_init (k := 0) pm pl z
    have e2 : sem__law_is 8 [.fz (.int m), .fz (.int m)] = .val (.bl true) [.no, .no] := is_int 7 m
    have e3 : sem__law_is 8 [.fz (lets ls), .fz (lets ls)] = .val (.bl true) [.no, .no] := is_lets 5 (by omega)
    have hp : partD (.int m) (lets ls) = .str "let" := by unfold partD; rw [z]
    rw [hp]
    walk_at "gos body__law_made e1"
    walk_at "gos schD lk_many lk_letters e2 e3"
theorem is_partD {n : Nat} (many letters : D) : IsT (n + 1) (partD many letters) := by
  rcases partD_cases many letters with ⟨i, e⟩ | ⟨s, e, h⟩
  · rw [e]; exact is_int n i
  · rw [e]; exact is_str (oEq_self h)
theorem ne_partD (many letters : D) : oNe (partD many letters) (partD many letters) = some (.bl false) := by
  rcases partD_cases many letters with ⟨i, e⟩ | ⟨s, e, h⟩
  · rw [e, oNe_int]; simp
  · rw [e]; exact oNe_self h
/-! ## what is drawn -/
theorem pl_deep {d : D} (h : Pl d) (k : Bool) : Pl (if k = true then .lst [d] else .tup [d]) := by
  cases k with
  | true => exact .lst _ (by simp) fun x hx => by cases List.mem_singleton.mp hx; exact h
  | false => exact .tup _ (by simp) fun x hx => by cases List.mem_singleton.mp hx; exact h
theorem deep_ok (i : Int) : wpF (sem__law_deep [.fz (.int i)]) (fun d bs => Pl d ∧ bs = [.no]) := by
  have hr : itR [.int 36] = some (rangeD 0 36) := itR_nat (n := 36) (by omega)
  have s1 : (1 : Nat) ≤ sizeLine := sl16 (by omega)
  refine fn_run ?_
  walk_at "go body__law_deep hr"
  refine for_rng (fun n E => ∃ (d : D) (s2 : Sl), E = [.fz (.int i), .fz d, s2] ∧ Pl d) ⟨_, _, rfl, .non⟩ ?_ ?_
  · rintro n E hn ⟨d, s2, rfl, p⟩
    walk_at "go s1"
    · exact ⟨_, _, rfl, pl_deep p true⟩
    · exact ⟨_, _, rfl, pl_deep p false⟩
  · rintro E ⟨d, s2, rfl, p⟩
    walk_at "go"
    exact p

theorem other_ok {many one st : Int} (m0 : 2 ≤ many) (m1 : many ≤ 8) (w0 : 0 ≤ one) (w1 : one < many) (t0 : 0 ≤ st) (t1 : st < many - 1) : one ≠ (one + 1 + st) % many ∧ 0 ≤ (one + 1 + st) % many ∧ (one + 1 + st) % many < many := by
  have : many = 2 ∨ many = 3 ∨ many = 4 ∨ many = 5 ∨ many = 6 ∨ many = 7 ∨ many = 8 := by omega
  rcases this with rfl | rfl | rfl | rfl | rfl | rfl | rfl <;> omega
theorem letters_ok {h : D} {k : Nat} {many most : Int} (hh : HandD h) (m0 : 2 ≤ many) (m1 : many ≤ 8) (o0 : 0 ≤ most) (o1 : most ≤ 60) :
    wpF (sem__law_letters [.bor k h, .fz (.int many), .fz (.int most)]) (fun d bs => ∃ ls h', d = lets ls ∧ bs = [.bor k h', .no, .no] ∧ HandD h' ∧ SchOk many ls) := by
  have l0 : (0 : Nat) ≤ sizeLine := sl16 (by omega)
  have l3 : (3 : Nat) ≤ sizeLine := sl16 (by omega)
  have l5 : (5 : Nat) ≤ sizeLine := sl16 (by omega)
  have l6 : (6 : Nat) ≤ sizeLine := sl16 (by omega)
  have hr := itR_int o0 (by omega : most ≤ 1000000)
  refine fn_run ?_
  walk_at "go body__law_letters l0 l5"
  refine call_by (some_ok hh (by simp) (by simp)) ?_
  rintro d bs ⟨h1, hd, rfl, hh1⟩
  obtain ⟨b, rfl, b0, b1⟩ : ∃ b : Int, d = .int b ∧ 0 ≤ b ∧ b ≤ 999 := by
    simp only [List.mem_cons, List.not_mem_nil, or_false] at hd
    rcases hd with rfl | rfl | rfl | rfl | rfl <;> exact ⟨_, rfl, by omega, by omega⟩
  walk_at "go hr"
  refine for_rng (fun n E => ∃ (h : D) (ls : List L3) (beat : Int) (s5 s6 s7 : Sl), E = [.bor k h, .fz (.int many), .fz (.int most), .own (.lst (ls.map lD)), .fz (.int beat), s5, s6, s7] ∧ HandD h ∧ 0 ≤ beat ∧ beat ≤ 999 ∧ ls.length ≤ n ∧ (∀ l, l ∈ ls → LetOk many l) ∧ Rises ls ∧ ls.Nodup ∧ ∀ l, l ∈ ls → l.2.2 ≤ beat) ?_ ?_ ?_
  · exact ⟨h1, [], b, _, _, _, rfl, hh1, b0, b1, Nat.le_refl _, fun l hl => by simp at hl, List.Pairwise.nil, List.nodup_nil, fun l hl => by simp at hl⟩
  · clear hh hh1 hd b0 b1
    rintro n E hn ⟨h, ls, beat, s5, s6, s7, rfl, hh, b0, b1, hl, ok, up, nd, le⟩
    walk_at "go"
    refine call_by (draw_ok hh (by omega) (by omega)) ?_
    rintro d bs ⟨q, h1, rfl, rfl, hh1, q0, q1⟩
    walk_at "go l6"
    refine call_by (some_ok hh1 (by simp) (by simp)) ?_
    rintro d bs ⟨h2, hd, rfl, hh2⟩
    obtain ⟨c, rfl, c0, c1⟩ : ∃ b : Int, d = .int b ∧ 0 ≤ b ∧ b ≤ 999 := by
      simp only [List.mem_cons, List.not_mem_nil, or_false] at hd
      rcases hd with rfl | rfl | rfl | rfl | rfl | rfl <;> exact ⟨_, rfl, by omega, by omega⟩
    walk_at "go"
    refine call_by (draw_ok hh2 (by omega) (by omega)) ?_
    rintro d bs ⟨one, h3, rfl, rfl, hh3, w0, w1⟩
    walk_at "go"
    refine call_by (draw_ok hh3 (by omega) (by omega)) ?_
    rintro d bs ⟨st, h4, rfl, rfl, hh4, t0, t1⟩
    have hne : one ≠ (one + 1 + st) % many ∧ 0 ≤ (one + 1 + st) % many ∧ (one + 1 + st) % many < many := other_ok m0 m1 w0 w1 t0 t1
    generalize ho : (one + 1 + st) % many = other at hne
    have hbt : beat ≤ (if beat + c < 999 then beat + c else 999) ∧ 0 ≤ (if beat + c < 999 then beat + c else 999) ∧ (if beat + c < 999 then beat + c else 999) ≤ 999 := by split <;> omega
    have hin := Enc.oNotInL Enc.l3 (by omega) (one, other, (if beat + c < 999 then beat + c else 999)) ls
    walk_at "go l3 ho"
    rw [show (D.tup [D.int one, D.int other, D.int (if beat + c < 999 then beat + c else 999)]) = lD (one, other, (if beat + c < 999 then beat + c else 999)) from rfl]
    generalize (if beat + c < 999 then beat + c else 999) = beat2 at hbt hin ⊢
    have hln : (ls.map lD).length < sizeLine := by rw [List.length_map]; have := sl16 (n := 61) (by omega); omega
    obtain ⟨b2, b3, b4⟩ := hbt
    walk_at "go hin hln"
    · rename_i hnot
      have lo : LetOk many (one, other, beat2) := ⟨w0, w1, hne.2.1, hne.2.2, hne.1, b3, b4⟩
      refine ⟨h4, ls ++ [(one, other, beat2)], beat2, _, _, _, by rw [List.map_append]; rfl, hh4, b3, b4, by simp; omega, fun l hl => ?_, List.pairwise_append.mpr ⟨up, List.pairwise_singleton .., fun a ha b hb => ?_⟩, ?_, fun l hl => ?_⟩
      · rcases List.mem_append.mp hl with hl | hl
        · exact ok l hl
        · cases List.mem_singleton.mp hl; exact lo
      · cases List.mem_singleton.mp hb
        have := le a ha
        exact Int.le_trans this b2
      · rw [List.nodup_append]
        exact ⟨nd, List.nodup_cons.mpr ⟨by simp, List.nodup_nil⟩, fun a ha b hb => by cases List.mem_singleton.mp hb; exact fun z => hnot (z ▸ ha)⟩
      · rcases List.mem_append.mp hl with hl | hl
        · exact Int.le_trans (le l hl) b2
        · cases List.mem_singleton.mp hl; exact Int.le_refl _
    · exact ⟨h4, ls, beat2, _, _, _, rfl, hh4, b3, b4, by omega, ok, up, nd, fun l hl => Int.le_trans (le l hl) b2⟩
  · rintro E ⟨h, ls, beat, s5, s6, s7, rfl, hh, b0, b1, hl, ok, up, nd, le⟩
    have hs : (ls.map lD).length ≤ sizeLine := by rw [List.length_map]; exact sl16 (by omega)
    walk_at "go hs"
    exact ⟨ls, h, rfl, rfl, hh, m0, m1, by omega, ok, up, nd⟩

def rwL (k : Nat) : L3 := ((k : Int) / 2 + (k : Int) % 2, (k : Int) / 2 + 1 - (k : Int) % 2, 0)
theorem rwL_ok {m : Int} {k : Nat} (h : k < (2 * m - 2).toNat) : 0 ≤ (rwL k).1 ∧ (rwL k).1 < m ∧ 0 ≤ (rwL k).2.1 ∧ (rwL k).2.1 < m ∧ (rwL k).1 ≠ (rwL k).2.1 := by
  unfold rwL; simp only; omega
theorem rwL_inj {k j : Nat} (h : (rwL k).1 = (rwL j).1) (h2 : (rwL k).2.1 = (rwL j).2.1) : k = j := by
  unfold rwL at h h2; simp only at h h2; omega
theorem rows_nd (n : Nat) (b : Int) : (((List.range n).map rwL).map fun l : L3 => ((l.1, l.2.1, b) : L3)).Nodup := by
  rw [List.map_map]
  unfold List.Nodup
  rw [List.pairwise_map]
  refine List.nodup_range.imp fun {a c} h => ?_
  intro e
  simp only [Function.comp, Prod.mk.injEq] at e
  exact h (rwL_inj e.1 e.2.1)
theorem full_ok {h : D} {k : Nat} {many : Int} (hh : HandD h) (m0 : 2 ≤ many) (m1 : many ≤ 8) :
    wpF (sem__law_full [.bor k h, .fz (.int many)]) (fun d bs => ∃ ls h', d = lets ls ∧ bs = [.bor k h', .no] ∧ HandD h' ∧ ls.length ≤ 62 ∧ (ls.length ≤ 60 → SchOk many ls)) := by
  have l0 : (0 : Nat) ≤ sizeLine := sl16 (by omega)
  have l2 : (2 : Nat) ≤ sizeLine := sl16 (by omega)
  have l3 : (3 : Nat) ≤ sizeLine := sl16 (by omega)
  have l4 : (4 : Nat) ≤ sizeLine := sl16 (by omega)
  have hr := itR_int (j := 2 * many - 2) (by omega) (by omega)
  have hr2 : itR [.int 31] = some (rangeD 0 31) := itR_nat (n := 31) (by omega)
  refine fn_run ?_
  walk_at "go body__law_full hr"
  refine lc_rng (sl16 (by omega)) (fun i acc E => acc = ((List.range i).map rwL).map lD ∧ E = [.bor k h, .fz (.int many), .no, .no, .no, .no, .no, .no, .no, .no]) ⟨rfl, rfl⟩ ?_ ?_
  · rintro i acc E hi ⟨rfl, rfl⟩
    walk_at "go l3"
    rw [List.range_succ, List.map_append, List.map_append]; rfl
  rintro acc E2 ⟨rfl, rfl⟩
  have hl : (List.map lD (List.map rwL (List.range (2 * many - 2).toNat))).length ≤ sizeLine := by simp only [List.length_map, List.length_range]; exact sl16 (by omega)
  walk_at "go hl l0"
  refine call_by (draw_ok hh (by omega) (by omega)) ?_
  rintro d bs ⟨b, h1, rfl, rfl, hh1, b0, b1⟩
  walk_at "go l2 hr2"
  generalize hR : List.map rwL (List.range (2 * many - 2).toNat) = R at *
  have hRl : R.length ≤ 14 := by rw [← hR]; simp; omega
  have hRo : ∀ l, l ∈ R → 0 ≤ l.1 ∧ l.1 < many ∧ 0 ≤ l.2.1 ∧ l.2.1 < many ∧ l.1 ≠ l.2.1 := fun l hl => by
    rw [← hR] at hl
    obtain ⟨j, hj, rfl⟩ := List.mem_map.mp hl
    exact rwL_ok (List.mem_range.mp hj)
  have hRn : ∀ b : Int, (R.map fun l : L3 => ((l.1, l.2.1, b) : L3)).Nodup := fun b => by rw [← hR]; exact rows_nd _ b
  refine for_rng (fun n E => ∃ (fs : List L3) (s5 s6 s7 s8 s9 : Sl), E = [.bor k h1, .fz (.int many), .fz (.tup (R.map lD)), .fz (.tup (fs.map lD)), .fz (.int b), s5, s6, s7, s8, s9] ∧ fs.length ≤ 14 * n ∧ (∀ l, l ∈ fs → LetOk many l ∧ l.2.2 < b + n) ∧ Rises fs ∧ fs.Nodup) ?_ ?_ ?_
  · exact ⟨[], _, _, _, _, _, rfl, Nat.zero_le _, fun l hl => by simp at hl, List.Pairwise.nil, List.nodup_nil⟩
  · rintro n E hn ⟨fs, s5, s6, s7, s8, s9, rfl, hf, ok, up, nd⟩
    walk_at "go"
    refine lc_fun (k := lD) (sl16 (by omega)) (fun l => lD (l.1, l.2.1, b + n)) (fun l hl => ?_) ?_
    · walk_at "go l3"
      rfl
    have hl2 : (R.map fun l => lD (l.1, l.2.1, b + n)).length ≤ sizeLine := by rw [List.length_map]; exact sl16 (by omega)
    have hl3 : (fs.map lD).length + (R.map fun l => lD (l.1, l.2.1, b + n)).length ≤ sizeLine := by rw [List.length_map, List.length_map]; exact sl16 (by omega)
    walk_at "go hl2 hl3"
    refine ⟨fs ++ R.map (fun l => (l.1, l.2.1, b + n)), _, _, _, _, _, by rw [List.map_append, List.map_map]; rfl, by rw [List.length_append, List.length_map]; omega, fun l hl => ?_, List.pairwise_append.mpr ⟨up, List.pairwise_map.mpr ?_, fun x hx y hy => ?_⟩, ?_⟩
    · rcases List.mem_append.mp hl with hl | hl
      · have := ok l hl
        exact ⟨this.1, by omega⟩
      · obtain ⟨r, hr, rfl⟩ := List.mem_map.mp hl
        obtain ⟨q1, q2, q3, q4, q5⟩ := hRo r hr
        exact ⟨⟨q1, q2, q3, q4, q5, by simp only; omega, by simp only; omega⟩, by simp only; omega⟩
    · exact List.pairwise_of_forall fun _ _ => Int.le_refl _
    · obtain ⟨r, hr, rfl⟩ := List.mem_map.mp hy
      have := (ok x hx).2
      simp only; omega
    · rw [List.nodup_append]
      refine ⟨nd, hRn _, fun x hx y hy e => ?_⟩
      obtain ⟨r, hr, rfl⟩ := List.mem_map.mp hy
      have := (ok x hx).2
      rw [e] at this
      simp only at this; omega
  · rintro E ⟨fs, s5, s6, s7, s8, s9, rfl, hf, ok, up, nd⟩
    walk_at "go l4"
    refine call_by (some_ok hh1 (by simp) (by simp)) ?_
    rintro d bs ⟨h2, hd, rfl, hh2⟩
    obtain ⟨c, rfl, c0, c1⟩ : ∃ b : Int, d = .int b ∧ 0 ≤ b ∧ b ≤ 62 := by
      simp only [List.mem_cons, List.not_mem_nil, or_false] at hd
      rcases hd with rfl | rfl | rfl | rfl <;> exact ⟨_, rfl, by omega, by omega⟩
    walk_at "go take_map' c0"
    refine ⟨fs.take c.toNat, h2, ?_, rfl, hh2, by rw [List.length_take]; omega, fun h60 => ⟨m0, m1, h60, fun l hl => (ok l (List.mem_of_mem_take hl)).1, up.sublist (List.take_sublist ..), nd.sublist (List.take_sublist ..)⟩⟩
    rfl

theorem pl_one {d : D} (p : Pl d) : Pl (.tup [d]) := .tup _ (by simp) fun x hx => by cases List.mem_singleton.mp hx; exact p
theorem pl_onel {d : D} (p : Pl d) : Pl (.lst [d]) := .lst _ (by simp) fun x hx => by cases List.mem_singleton.mp hx; exact p
theorem p19 : oPow (.int 10) (.int 19) = some (.int 10000000000000000000) := by rfl
theorem e_list {ds : List D} : oList [.tup ds] = some (.lst ds) := rfl
theorem e_listL {ds : List D} : oList [.lst ds] = some (.lst ds) := rfl
theorem addT {a b : List D} : oAdd (.tup a) (.tup b) = if a.length + b.length ≤ sizeLine then some (.tup (a ++ b)) else none := rfl
theorem take_pl {a b c : D} {n : Int} (h0 : 0 ≤ n) (h1 : n < 3) {x : D} : ∃ ds, [a, b, c].take n.toNat ++ [x] ++ [a, b, c].drop (n + 1).toNat = ds ∧ ds.length = 3 ∧ ∀ d, d ∈ ds → d = a ∨ d = b ∨ d = c ∨ d = x := by
  have : n = 0 ∨ n = 1 ∨ n = 2 := by omega
  rcases this with rfl | rfl | rfl
  · exact ⟨[x, b, c], rfl, rfl, by simp⟩
  · exact ⟨[a, x, c], rfl, rfl, by simp⟩
  · exact ⟨[a, b, x], rfl, rfl, by simp⟩
theorem set_pl {ds : List D} {i : Nat} {x : D} (p : ∀ d, d ∈ ds → Pl d) (px : Pl x) : ∀ d, d ∈ ds.set i x → Pl d := fun d hd => by
  rcases List.mem_or_eq_of_mem_set hd with h | h
  · exact p d h
  · exact h ▸ px
theorem ins_pl {ds : List D} {i : Nat} {x : D} (p : ∀ d, d ∈ ds → Pl d) (px : Pl x) : ∀ d, d ∈ ds.take i ++ [x] ++ ds.drop i → Pl d := fun d hd => by
  rcases List.mem_append.mp hd with hd | hd
  · rcases List.mem_append.mp hd with hd | hd
    · exact p d (List.mem_of_mem_take hd)
    · exact List.mem_singleton.mp hd ▸ px
  · exact p d (List.mem_of_mem_drop hd)
theorem ins_len {ds : List D} {i : Nat} {x : D} : (ds.take i ++ [x] ++ ds.drop i).length = ds.length + 1 := by
  simp only [List.length_append, List.length_take, List.length_drop, List.length_singleton]; omega
theorem spoilt_ok {h : D} {k : Nat} {many : Int} {ds : List D} (hh : HandD h) (m0 : 2 ≤ many) (m1 : many ≤ 8) (p : ∀ d, d ∈ ds → Pl d) (h0 : 0 < ds.length) (h1 : ds.length ≤ 200) :
    wpF (sem__law_spoilt [.bor k h, .fz (.int many), .fz (.tup ds)]) (fun d bs => ∃ ds' h', d = .tup ds' ∧ bs = [.bor k h', .no, .no] ∧ HandD h' ∧ ds'.length ≤ ds.length + 1 ∧ ∀ d, d ∈ ds' → Pl d) := by
  have hs : ds.length ≤ sizeLine := sl16 (by omega)
  have hs2 : ds.length < sizeLine := by have := sl16 (n := 201) (by omega); omega
  have l0 : (0 : Nat) ≤ sizeLine := sl16 (by omega)
  have l1 : (1 : Nat) ≤ sizeLine := sl16 (by omega)
  have l2 : (2 : Nat) ≤ sizeLine := sl16 (by omega)
  have l3 : (3 : Nat) ≤ sizeLine := sl16 (by omega)
  have l4 : (4 : Nat) ≤ sizeLine := sl16 (by omega)
  have l10 : (10 : Nat) ≤ sizeLine := sl16 (by omega)
  have l17 : (17 : Nat) ≤ sizeLine := sl16 (by omega)
  refine fn_run ?_
  unfold body__law_spoilt
  refine seq_cut (fun E => ∃ h' kind at', E = [.bor k h', .fz (.int many), .fz (.tup ds), .own (.lst ds), .fz (.int kind), .fz (.int at'), .no, .no, .no, .no] ∧ HandD h' ∧ 0 ≤ at' ∧ at' < ds.length) ?_ ?_
  · walk_at "go e_list"
    refine call_by (draw_ok hh (by omega) (by omega)) ?_
    rintro d bs ⟨kind, h2, rfl, rfl, hh2, r0, r1⟩
    walk_at "go hs"
    refine call_by (draw_ok hh2 (by omega) (by omega)) ?_
    rintro d bs ⟨at', h3, rfl, rfl, hh3, a0, a1⟩
    walk_at "go"
    exact ⟨h3, kind, at', rfl, hh3, a0, a1⟩
  rintro E ⟨h2, kind, at', rfl, hh2, a0, a1⟩
  obtain ⟨one, ho⟩ : ∃ x, ds[at'.toNat]? = some x := ⟨_, List.getElem?_eq_getElem (by omega)⟩
  have po : Pl one := p _ (List.mem_of_getElem? ho)
  have gx : atI ds at' = some one := atI_get a0 ho
  have ix : ixN ds.length at' = some at'.toNat := ixN_pos a0 a1
  refine seq_cut (fun E => E = [.bor k h2, .fz (.int many), .fz (.tup ds), .own (.lst ds), .fz (.int kind), .fz (.int at'), .fz one, .no, .no, .no]) ?_ ?_
  · walk_at "go gx"
  rintro E rfl
  refine seq_cut (fun E => ∃ h' rows s4 s5 s6 s7 s8 s9, E = [.bor k h', .fz (.int many), .fz (.tup ds), .own (.lst rows), s4, s5, s6, s7, s8, s9] ∧ HandD h' ∧ rows.length ≤ ds.length + 1 ∧ ∀ d, d ∈ rows → Pl d) ?_ ?_
  · walk_at "go"
    · refine call_by (deep_ok 1) ?_
      rintro d1 bs ⟨pd1, rfl⟩
      walk_at "go"
      refine call_by (deep_ok 0) ?_
      rintro d2 bs ⟨pd2, rfl⟩
      walk_at "go"
      refine call_by (some_ok hh2 (by simp) (by simp)) ?_
      rintro d bs ⟨h3, hd, rfl, hh3⟩
      have pd : Pl d := by
        simp only [List.mem_cons, List.not_mem_nil, or_false] at hd
        rcases hd with rfl | rfl | rfl | rfl | rfl | rfl | rfl | rfl | rfl | rfl
        · exact .non
        · exact .int _
        · exact .str _
        · exact .lst _ (by simp) (by simp)
        · exact .tup _ (by simp) (by simp)
        · exact .tup _ (by simp) (by simp; exact ⟨.int _, .int _⟩)
        · exact .tup _ (by simp) (by simp; exact ⟨.int _, .int _, .int _⟩)
        · exact pd1
        · exact pd2
        · exact .emp
      walk_at "go ix"
      exact ⟨h3, ds.set at'.toNat d, _, _, _, _, _, _, rfl, hh3, by rw [List.length_set]; omega, set_pl p pd⟩
    · refine call_by (draw_ok hh2 (by omega) (by omega)) ?_
      rintro d bs ⟨r, h3, rfl, rfl, hh3, r0, r1⟩
      walk_at "go hs2"
      exact ⟨h3, ds.take r.toNat ++ [one] ++ ds.drop r.toNat, _, _, _, _, _, _, by simp only [List.append_assoc, List.cons_append, List.nil_append]; rfl, hh3, by rw [ins_len]; omega, ins_pl p po⟩
    · have ep : mPopAt (.lst ds) [.int at'] = some (one, .lst (ds.eraseIdx at'.toNat)) := x_popAt a0 (by omega) ho
      have hel : (ds.eraseIdx at'.toNat).length = ds.length - 1 := by rw [List.length_eraseIdx, if_pos (by omega)]
      have hel2 : (ds.eraseIdx at'.toNat).length < sizeLine := by have := sl16 (n := 201) (by omega); omega
      have hel3 : (ds.eraseIdx at'.toNat).length ≤ sizeLine := by omega
      have pe : ∀ d, d ∈ ds.eraseIdx at'.toNat → Pl d := fun d hd => p d (List.mem_of_mem_eraseIdx hd)
      walk_at "go ep"
      refine call_by (draw_ok hh2 (by omega) (by omega)) ?_
      rintro d bs ⟨r, h3, rfl, rfl, hh3, r0, r1⟩
      walk_at "go"
      exact ⟨h3, (ds.eraseIdx at'.toNat).take r.toNat ++ [one] ++ (ds.eraseIdx at'.toNat).drop r.toNat, _, _, _, _, _, _, by simp only [List.append_assoc, List.cons_append, List.nil_append]; rfl, hh3, by rw [ins_len]; omega, ins_pl pe po⟩
    · have nop : ∃ h' rows s4 s5 s6 s7 s8 s9, [Sl.bor k h2, .fz (.int many), .fz (.tup ds), .own (.lst ds), .fz (.int kind), .fz (.int at'), .fz one, .no, .no, .no] = [.bor k h', .fz (.int many), .fz (.tup ds), .own (.lst rows), s4, s5, s6, s7, s8, s9] ∧ HandD h' ∧ rows.length ≤ ds.length + 1 ∧ ∀ d, d ∈ rows → Pl d :=
        ⟨h2, ds, _, _, _, _, _, _, rfl, hh2, by omega, p⟩
      cases po with
      | tup es hl pe =>
        have hes : es.length ≤ sizeLine := sl16 (by omega)
        by_cases h3 : es.length = 3
        · match es, h3 with
          | [a, b, c], _ =>
            have i3 : ((3 : Nat) : Int) = 3 := rfl
            have pa := pe a (by simp)
            have pb := pe b (by simp)
            have pc := pe c (by simp)
            walk_at "go i3 p19"
            refine call_by (draw_ok hh2 (by omega) (by omega)) ?_
            rintro d bs ⟨pl, h3, rfl, rfl, hh3, r0, r1⟩
            walk_at "go"
            refine call_by (some_ok hh3 (by simp) (by simp)) ?_
            rintro part bs ⟨h4, hd, rfl, hh4⟩
            have ppt : Pl part := by
              simp only [List.mem_cons, List.not_mem_nil, or_false] at hd
              rcases hd with rfl | rfl | rfl | rfl | rfl | rfl | rfl | rfl | rfl | rfl | rfl | rfl | rfl | rfl | rfl | rfl | rfl
              all_goals first | exact .int _ | exact .bl _ | exact .non | exact .str _ | exact pl_one (.int _) | exact pl_onel (.int _) | assumption
            clear hd
            have e1 := e_lnum pc 10000
            have fin : ∀ (h : D) (place : Int) (x : D), HandD h → 0 ≤ place → place < 3 → Pl x → ∀ j : Nat, ∀ d, d ∈ ds.set j (.tup ([a, b, c].take place.toNat ++ [x] ++ [a, b, c].drop (place + 1).toNat)) → Pl d := by
              intro h place x hh p0 p1 px j
              obtain ⟨q, e, hl, hq⟩ := take_pl (a := a) (b := b) (c := c) (x := x) p0 p1
              rw [e]
              refine set_pl p (.tup _ (by omega) fun d hd => ?_)
              rcases hq d hd with rfl | rfl | rfl | rfl <;> assumption
            have hp1 : 0 ≤ pl + 1 := by omega
            cases hb : btw c 0 9999 with
            | false =>
              rw [show (10000 : Int) - 1 = 9999 from rfl, hb] at e1
              walk_at "go e1 hp1 r0 List.length_take List.length_drop List.length_append List.length_set ix e_list"
              all_goals first
                | exact ⟨h4, _, _, _, _, _, _, _, rfl, hh4, by simp only [List.length_set]; omega, fin h4 pl part hh4 r0 r1 ppt _⟩
                | exact ⟨h4, _, _, _, _, _, _, _, rfl, hh4, by simp only [List.length_set]; omega, set_pl (fin h4 pl part hh4 r0 r1 ppt _) (.lst _ hl pe)⟩
            | true =>
              obtain ⟨z, rfl, z0, z1⟩ := btw_ex hb
              rw [show (10000 : Int) - 1 = 9999 from rfl, hb] at e1
              walk_at "go e1 hp1 r0 List.length_take List.length_drop List.length_append List.length_set ix e_list"
              · refine call_by (some_ok hh4 (by simp) (by simp)) ?_
                rintro d bs ⟨h5, hd, rfl, hh5⟩
                obtain ⟨w, rfl⟩ : ∃ w : Int, d = .int w := by
                  simp only [List.mem_cons, List.not_mem_nil, or_false] at hd
                  rcases hd with rfl | rfl | rfl | rfl <;> exact ⟨_, rfl⟩
                walk_at "go List.length_take List.length_drop List.length_append List.length_set ix e_list"
                all_goals first
                  | exact ⟨h5, _, _, _, _, _, _, _, rfl, hh5, by simp only [List.length_set]; omega, fin h5 2 (.int (z + w)) hh5 (by omega) (by omega) (.int _) _⟩
                  | exact ⟨h5, _, _, _, _, _, _, _, rfl, hh5, by simp only [List.length_set]; omega, set_pl (fin h5 2 (.int (z + w)) hh5 (by omega) (by omega) (.int _) _) (.lst _ hl pe)⟩
                  | trace_state
              all_goals first
                | exact ⟨h4, _, _, _, _, _, _, _, rfl, hh4, by simp only [List.length_set]; omega, fin h4 pl part hh4 r0 r1 ppt _⟩
                | exact ⟨h4, _, _, _, _, _, _, _, rfl, hh4, by simp only [List.length_set]; omega, set_pl (fin h4 pl part hh4 r0 r1 ppt _) (.lst _ hl pe)⟩
        · walk_at "go"
          exact nop
      | _ => walk_at "go"; exact nop
  · rintro E ⟨h', rows, s4, s5, s6, s7, s8, s9, rfl, hh', hr, pr⟩
    have hs3 : rows.length ≤ sizeLine := sl16 (by omega)
    walk_at "go hs3"
    exact ⟨rows, h', rfl, rfl, hh', hr, pr⟩

/-! ## equality -/
theorem oEq_lets (a b : List L3) : oEq (lets a) (lets b) = some (.bl (decide (a = b))) := Enc.l3.tup.eq (by omega) a b
theorem e_eqs (m1 m2 : Int) (a b : List L3) : sem_Schedule___eq__ [.fz (schD (.int m1) (lets a)), .fz (schD (.int m2) (lets b))] = .val (.bl ((m1 == m2) && decide (a = b))) [.no, .no] := by
  have e2 := oEq_lets a b
  refine fn_eq ?_
  by_cases hm : m1 = m2
  · have hb : (m1 == m2) = true := by simpa using hm
    walk_at "go body_Schedule___eq__ schD lk_many lk_letters e2 hb"
  · have hb : (m1 == m2) = false := by simpa using hm
    walk_at "go body_Schedule___eq__ schD lk_many lk_letters e2 hb"
theorem e_eqT (m1 : Int) (a : List L3) (ds : List D) : sem_Schedule___eq__ [.fz (schD (.int m1) (lets a)), .fz (.tup ds)] = .val (.bl false) [.no, .no] := by
  refine fn_eq ?_
  walk_at "go body_Schedule___eq__"
theorem e_eqN (m1 : Int) (a : List L3) : sem_Schedule___eq__ [.fz (schD (.int m1) (lets a)), .fz .non] = .val (.bl false) [.no, .no] := by
  refine fn_eq ?_
  walk_at "go body_Schedule___eq__"
theorem SchOk.more {m m2 : Int} {ls : List L3} (h : SchOk m ls) (h1 : m ≤ m2) (h2 : m2 ≤ 8) : SchOk m2 ls := ⟨by have := h.m0; omega, h2, h.le, fun l hl => by
  obtain ⟨a0, a1, b0, b1, ne, t0, t1⟩ := h.ok l hl
  exact ⟨a0, by omega, b0, by omega, ne, t0, t1⟩, h.up, h.nd⟩
theorem SchOk.sub {m : Int} {ls ks : List L3} (h : SchOk m ls) (s : ks.Sublist ls) : SchOk m ks := ⟨h.m0, h.m1, by have := h.le; have := s.length_le; omega, fun l hl => h.ok l (s.subset hl), h.up.sublist s, h.nd.sublist s⟩
theorem pl_lets' {m : Int} {ls : List L3} (h : SchOk m ls) : Pl (lets ls) := pl_lets (by have := h.le; omega)
theorem e_new {m : Int} {ls : List L3} {k : Nat} (h : SchOk m ls) : sem_Schedule___init__ [.bor k (.ins 0 [] []), .fz (.int m), .fz (lets ls)] = .val .non [.bor k (schD (.int m) (lets ls)), .no, .no] := e_init (.int m) (pl_lets' h) (judge_ok h)
theorem cut_sub (ls : List L3) (n : Nat) : (ls.take n ++ ls.drop (n + 1)).Sublist ls := by
  have : (ls.take n ++ ls.drop (n + 1)).Sublist (ls.take n ++ ls.drop n) := List.Sublist.append (List.Sublist.refl _) (by
    rw [← List.drop_drop]
    exact List.drop_sublist 1 _)
  rw [List.take_append_drop] at this
  exact this
theorem letsE (ls : List L3) : D.tup (ls.map lD) = lets ls := rfl
theorem equals_ok {h : D} {k : Nat} {many : Int} {ls : List L3} (hh : HandD h) (so : SchOk many ls) :
    wpF (sem__law_equals [.bor k h, .fz (.int many), .fz (lets ls)]) (fun d bs => ∃ h', d = .bl true ∧ bs = [.bor k h', .no, .no] ∧ HandD h') := by
  have l2 : (2 : Nat) ≤ sizeLine := sl16 (by omega)
  have hle := so.le
  have m1 := so.m1
  have m0 := so.m0
  have hs : (ls.map lD).length ≤ sizeLine := by rw [List.length_map]; exact sl16 (by omega)
  have e1 := e_new (k := 0) so
  have q1 := e_eqs many many ls ls
  have q2 := e_eqT many ls [.int many, lets ls]
  have q3 := e_eqN many ls
  have q4 := e_eqT many ls (ls.map lD)
  rw [show ((many == many) && decide (ls = ls)) = true by simp] at q1
  unfold schD at e1 q1 q2 q3 q4
  unfold lets at e1 q1 q2 q3 q4
  refine fn_run ?_
  unfold body__law_equals
  refine seq_cut (fun E => E = [.bor k h, .fz (.int many), .fz (.tup (ls.map lD)), .fz (schD (.int many) (lets ls)), .fz (schD (.int many) (lets ls)), .no]) ?_ ?_
  · walk_at "go e1 e_list hs lets"
    rfl
  rintro E rfl
  unfold schD lets
  refine seq_cut (fun E => E = [.bor k h, .fz (.int many), .fz (.tup (ls.map lD)), .fz (.ins 0 ["many", "letters"] [.int many, .tup (ls.map lD)]), .fz (.ins 0 ["many", "letters"] [.int many, .tup (ls.map lD)]), .no]) ?_ ?_
  · walk_at "go l2 q1 q2 q3 q4"
  rintro E rfl
  refine seq_cut (fun E => E = [.bor k h, .fz (.int many), .fz (.tup (ls.map lD)), .fz (.ins 0 ["many", "letters"] [.int many, .tup (ls.map lD)]), .fz (.ins 0 ["many", "letters"] [.int many, .tup (ls.map lD)]), .no]) ?_ ?_
  · walk_at "go"
    have e2 := e_new (k := 0) (so.more (m2 := many + 1) (by omega) (by omega))
    have q5 := e_eqs many (many + 1) ls ls
    rw [show (many == many + 1) = false by simp; omega, Bool.false_and] at q5
    unfold schD lets at e2 q5
    walk_at "go e2 q5"
  rintro E rfl
  walk_at "go"
  refine call_by (draw_ok hh (by rw [List.length_map]; omega) (by rw [List.length_map]; omega)) ?_
  rintro d bs ⟨r, h1, rfl, rfl, hh1, r0, r1⟩
  rw [List.length_map] at r1
  have r2 : 0 ≤ r + 1 := by omega
  by_cases hne : r = ls.length
  · have hl : (ls.map lD).length = ls.length := List.length_map ..
    walk_at "go"
    exact ⟨h1, rfl, hh1⟩
  have hc := so.sub (cut_sub ls r.toNat)
  have e3 := e_new (k := 0) hc
  have q6 := e_eqs many many ls (ls.take r.toNat ++ ls.drop (r.toNat + 1))
  have hd : decide (ls = ls.take r.toNat ++ ls.drop (r.toNat + 1)) = false := by
    refine decide_eq_false fun e => ?_
    have := congrArg List.length e
    rw [List.length_append, List.length_take, List.length_drop] at this
    omega
  rw [hd, Bool.and_false] at q6
  have hr : r.toNat + 1 = (r + 1).toNat := by omega
  unfold schD lets at e3 q6
  rw [List.map_append, hr] at e3 q6
  have hsz : (List.map lD (ls.take r.toNat)).length + (List.map lD (ls.drop (r + 1).toNat)).length ≤ sizeLine := by simp only [List.length_map, List.length_take, List.length_drop]; exact sl16 (by omega)
  have hl : ((ls.map lD).length : Int) = ls.length := by rw [List.length_map]
  walk_at "go r0 r2 hl take_map' drop_map' e3 q6 hsz"
  exact ⟨h1, rfl, hh1⟩

/-! ## lots and orders -/
abbrev Up (xs : List Int) : Prop := xs.Pairwise (· < ·)
def lot (xs : List Int) : D := .tup (xs.map .int)
theorem up_zip : ∀ {xs : List Int}, Up xs → ((xs.zip (xs.drop 1)).all fun p => decide (p.1 < p.2)) = true
  | [], _ => rfl
  | [_], _ => rfl
  | x :: y :: r, h => by
    have h2 := List.pairwise_cons.mp h
    have := up_zip h2.2
    simp only [List.drop_succ_cons, List.drop_zero, List.zip_cons_cons, List.all_cons, Bool.and_eq_true, decide_eq_true_eq] at this ⊢
    exact ⟨h2.1 y (by simp), this⟩

theorem e_is_lot {xs : List Int} {n : Int} (h : Up xs) (h0 : ∀ x, x ∈ xs → 0 ≤ x ∧ x < n) (hl : xs.length ≤ 1000) : sem_is_lot [.fz (.tup (xs.map .int)), .fz (.int n)] = .val (.bl true) [.no, .no] := by
  have hs : xs.length ≤ sizeLine := sl16 (by omega)
  refine fn_eq ?_
  walk_at "go body_is_lot"
  refine lc_fun (k := D.int) hs (fun _ => .bl true) (fun x hx => ?_) ?_
  · have e1 := e_is_between (.int x) 0 (n - 1)
    have := h0 x hx
    rw [btw_int, decide_eq_true (by omega), decide_eq_true (by omega)] at e1
    walk_at "go e1"
  · have e4 : oAll [.lst (xs.map fun _ => .bl true)] = some (.bl true) := by rw [oAll_map]; simp
    walk_at "go e4 drop_map' zipD_map"
    have hz : (xs.zip (xs.drop 1)).length ≤ sizeLine := by rw [List.length_zip]; omega
    refine lc_fun (k := fun p : Int × Int => D.tup [.int p.1, .int p.2]) hz (fun p => .bl (decide (p.1 < p.2))) (fun p hp => ?_) ?_
    · walk_at "go"
    · have e5 : oAll [.lst ((xs.zip (xs.drop 1)).map fun p => .bl (decide (p.1 < p.2)))] = some (.bl true) := by rw [oAll_map, up_zip h]
      walk_at "go e5"
/-- the letters whose numbers are not in the lot -/
def kp (lot : List Int) : Nat → List L3 → List L3
  | _, [] => []
  | n, l :: ls => if (n : Int) ∈ lot then kp lot (n + 1) ls else l :: kp lot (n + 1) ls
theorem kp_sub (lot : List Int) : ∀ (n : Nat) (ls : List L3), (kp lot n ls).Sublist ls
  | _, [] => List.Sublist.refl _
  | n, l :: ls => by
    rw [kp]
    by_cases h : (n : Int) ∈ lot
    · rw [if_pos h]; exact (kp_sub lot (n + 1) ls).cons l
    · rw [if_neg h]; exact (kp_sub lot (n + 1) ls).cons₂ l
theorem e_without {m : Int} {ls : List L3} {bar : List Int} (so : SchOk m ls) (up : Up bar) (bd : ∀ x, x ∈ bar → 0 ≤ x ∧ x < ls.length) (hl : bar.length ≤ 1000) :
    sem_without [.fz (schD (.int m) (lets ls)), .fz (.tup (bar.map .int))] = .val (schD (.int m) (lets (kp bar 0 ls))) [.no, .no] := by
  have hle := so.le
  have hs : (ls.map lD).length ≤ sizeLine := by rw [List.length_map]; exact sl16 (by omega)
  have e1 := e_is_lot (n := ((ls.map lD).length : Int)) up (by rw [List.length_map]; exact bd) hl
  have e3 := e_new (k := 0) (so.sub (kp_sub bar 0 ls))
  unfold schD lets at *
  refine fn_eq ?_
  walk_at "go body_without lk_many lk_letters e1 enumD_map"
  refine lc_maps (sl16 (by rw [List.length_zipIdx]; omega)) (fun r acc E => ∃ n rs ks, r = rs.zipIdx n ∧ kp bar 0 ls = ks ++ kp bar n rs ∧ acc = ks.map lD ∧ E = [.fz (.ins 0 ["many", "letters"] [.int m, .tup (ls.map lD)]), .fz (.tup (bar.map .int)), .no, .no, .no]) ?_ ?_ ?_
  · exact ⟨0, ls, [], rfl, rfl, rfl, rfl⟩
  · rintro x r acc E ⟨n, rs, ks, e, hk, rfl, rfl⟩
    cases rs with
    | nil => cases e
    | cons y rs =>
      rw [List.zipIdx_cons] at e
      cases e
      have e2 := Enc.int.oNotInT (by omega) (n : Int) bar
      rw [kp] at hk
      by_cases hn : (n : Int) ∈ bar
      · rw [if_pos hn] at hk
        rw [decide_eq_true hn] at e2
        walk_at "go e2"
        exact ⟨n + 1, rs, ks, rfl, hk, rfl⟩
      · rw [if_neg hn] at hk
        rw [decide_eq_false hn] at e2
        walk_at "go e2"
        exact ⟨n + 1, rs, ks ++ [y], rfl, by rw [hk, List.append_assoc]; rfl, by rw [List.map_append]; rfl⟩
  · rintro acc E2 ⟨n, rs, ks, e, hk, rfl, rfl⟩
    cases rs with
    | cons y rs => rw [List.zipIdx_cons] at e; cases e
    | nil =>
      rw [kp, List.append_nil] at hk
      subst hk
      have hk : ((kp bar 0 ls).map lD).length ≤ sizeLine := by rw [List.length_map]; have := (kp_sub bar 0 ls).length_le; exact sl16 (by omega)
      walk_at "go lk_many e3 hk"
/-! ## lines -/
def trn (k : Nat) : L3 := ((k : Int) % 2, 1 - (k : Int) % 2, (k : Int))
def bth (n : Nat) : List L3 := (List.range n).flatMap fun b : Nat => [((0 : Int), (1 : Int), (b : Int)), (1, 0, b)]
theorem trn_ok (n : Nat) (h : n ≤ 60) : SchOk 2 ((List.range n).map trn) := by
  refine ⟨by omega, by omega, by simpa using h, fun l hl => ?_, ?_, ?_⟩
  · obtain ⟨k, hk, rfl⟩ := List.mem_map.mp hl
    have := List.mem_range.mp hk
    unfold trn
    constructor <;> simp only <;> omega
  · refine List.pairwise_map.mpr (List.pairwise_lt_range.imp fun {a b} h => ?_)
    unfold trn; simp only; omega
  · unfold List.Nodup
    refine List.pairwise_map.mpr (List.pairwise_lt_range.imp fun {a b} h e => ?_)
    unfold trn at e; simp only [Prod.mk.injEq] at e; omega
theorem bth_succ (n : Nat) : bth (n + 1) = bth n ++ [((0 : Int), (1 : Int), (n : Int)), (1, 0, (n : Int))] := by
  unfold bth; rw [List.range_succ, List.flatMap_append]; simp
theorem bth_ok : ∀ n : Nat, n ≤ 30 → (bth n).length = 2 * n ∧ (∀ l, l ∈ bth n → LetOk 2 l ∧ l.2.2 < n) ∧ Rises (bth n) ∧ (bth n).Nodup
  | 0, _ => ⟨rfl, fun l hl => by simp [bth] at hl, List.Pairwise.nil, List.nodup_nil⟩
  | n + 1, h => by
    obtain ⟨q1, q2, q3, q4⟩ := bth_ok n (by omega)
    rw [bth_succ]
    refine ⟨by rw [List.length_append, q1]; simp; omega, fun l hl => ?_, ?_, ?_⟩
    · rcases List.mem_append.mp hl with hl | hl
      · have := q2 l hl; exact ⟨this.1, by omega⟩
      · simp only [List.mem_cons, List.not_mem_nil, or_false] at hl
        rcases hl with rfl | rfl
        · exact ⟨⟨by simp only; omega, by simp only; omega, by simp only; omega, by simp only; omega, by simp only; omega, by simp only; omega, by simp only; omega⟩, by simp only; omega⟩
        · exact ⟨⟨by simp only; omega, by simp only; omega, by simp only; omega, by simp only; omega, by simp only; omega, by simp only; omega, by simp only; omega⟩, by simp only; omega⟩
    · refine List.pairwise_append.mpr ⟨q3, ?_, fun a ha b hb => ?_⟩
      · simp
      · have := (q2 a ha).2
        simp only [List.mem_cons, List.not_mem_nil, or_false] at hb
        rcases hb with rfl | rfl <;> simp only <;> omega
    · rw [List.nodup_append]
      refine ⟨q4, by simp, fun a ha b hb e => ?_⟩
      have := (q2 a ha).2
      simp only [List.mem_cons, List.not_mem_nil, or_false] at hb
      rcases hb with rfl | rfl <;> (rw [e] at this; simp only at this; omega)
theorem bth_sch {n : Nat} (h : n ≤ 30) : SchOk 2 (bth n) := by
  obtain ⟨q1, q2, q3, q4⟩ := bth_ok n h
  exact ⟨by omega, by omega, by omega, fun l hl => (q2 l hl).1, q3, q4⟩

theorem and_one (k : Nat) : Builtin.bitAnd (k : Int) 1 = (k : Int) % 2 := by
  have h : (k : Int).toNat = k := rfl
  have h1 : (1 : Int).toNat = 1 := rfl
  have h2 : decide (0 ≤ (k : Int)) = true := by simp
  have h3 : decide (0 ≤ (1 : Int)) = true := rfl
  unfold Builtin.bitAnd
  simp only [h2, h3, h, h1, Nat.and_one_is_mod]
  omega
theorem x_and (k : Nat) : oAnd (.int k) (.int 1) = some (.int ((k : Int) % 2)) := by
  show some (D.int (Builtin.bitAnd (k : Int) 1)) = _
  rw [and_one]
theorem e_turns {n : Nat} (h : n ≤ 60) : sem_turns_line [.fz (.int (n : Nat))] = .val (schD (.int 2) (lets ((List.range n).map trn))) [.no] := by
  have e1 := e_is_between (.int (n : Nat)) 0 60
  rw [btw_int, decide_eq_true (by omega), decide_eq_true (by omega)] at e1
  have hr := itR_nat (n := n) (by omega)
  have l3 : (3 : Nat) ≤ sizeLine := sl16 (by omega)
  have e3 := e_new (k := 0) (trn_ok n h)
  unfold schD lets at *
  refine fn_eq ?_
  walk_at "go body_turns_line e1 hr"
  refine lc_rng (sl16 (by omega)) (fun i acc E => acc = ((List.range i).map trn).map lD ∧ E = [.fz (.int (n : Nat)), .no]) ⟨rfl, rfl⟩ ?_ ?_
  · rintro i acc E hi ⟨rfl, rfl⟩
    have ea := x_and i
    walk_at "go ea l3"
    rw [List.range_succ, List.map_append, List.map_append]; rfl
  · rintro acc E2 ⟨rfl, rfl⟩
    have hs : (((List.range n).map trn).map lD).length ≤ sizeLine := by simp only [List.length_map, List.length_range]; exact sl16 (by omega)
    walk_at "go e3 hs"
theorem e_both {n : Nat} (h : n ≤ 30) : sem_both_line [.fz (.int (n : Nat))] = .val (schD (.int 2) (lets (bth n))) [.no] := by
  have e1 := e_is_between (.int (n : Nat)) 0 30
  rw [btw_int, decide_eq_true (by omega), decide_eq_true (by omega)] at e1
  have hr := itR_nat (n := n) (by omega)
  have hr2 : itR [.int 2] = some (rangeD 0 2) := itR_nat (n := 2) (by omega)
  have l3 : (3 : Nat) ≤ sizeLine := sl16 (by omega)
  have e3 := e_new (k := 0) (bth_sch h)
  have d30 : (60 : Int) / 2 = 30 := rfl
  unfold schD lets at *
  refine fn_eq ?_
  walk_at "go body_both_line d30 e1 hr"
  refine lc2_maps (kf := fun i : Nat => D.int (0 + (i : Int))) (xs := List.range n) (fun r acc E => ∃ i, r = (List.range n).drop i ∧ i ≤ n ∧ acc = (bth i).map lD ∧ E = [.fz (.int (n : Nat)), .no, .no]) ⟨0, rfl, Nat.zero_le _, rfl, rfl⟩ ?_ ?_
  · rintro x r acc E ⟨i, e, hi, rfl, rfl⟩
    by_cases hl : i < n
    · rw [List.drop_eq_getElem_cons (by simpa using hl)] at e
      cases e
      simp only [List.getElem_range]
      walk_at "go hr2"
      refine lca_fun (kf := fun j : Nat => D.int (0 + (j : Int))) (hf := fun j : Nat => lD ((j : Int), 1 - (j : Int), (i : Int))) (xs := List.range 2) ?_ (fun j hj => ?_) ?_
      · rw [List.length_map, (bth_ok i (by omega)).1]; simp; exact sl16 (by omega)
      · walk_at "go l3"
        rfl
      · exact ⟨i + 1, rfl, hl, by rw [bth_succ, List.map_append]; rfl, rfl⟩
    · rw [List.drop_eq_nil_of_le (by simp; omega)] at e
      cases e
  · rintro acc E2 ⟨i, e, hi, rfl, rfl⟩
    have : n ≤ i := by simpa [List.drop_eq_nil_iff] using e.symm
    have : i = n := by omega
    subst this
    have hs : ((bth i).map lD).length ≤ sizeLine := by rw [List.length_map, (bth_ok i (by omega)).1]; exact sl16 (by omega)
    walk_at "go e3 hs"

theorem e_lines {n : Nat} (h : n ≤ 60) : sem__law_lines [.fz (.int (n : Nat))] = .val (.bl true) [.no] := by
  have hr := itR_nat (n := n) (by omega)
  have l0 : (0 : Nat) ≤ sizeLine := sl16 (by omega)
  have l2 : (2 : Nat) ≤ sizeLine := sl16 (by omega)
  have l3 : (3 : Nat) ≤ sizeLine := sl16 (by omega)
  have e1 := e_turns h
  have e2 : sem__law_is 8 [.fz (lets ((List.range n).map trn)), .fz (lets ((List.range n).map trn))] = .val (.bl true) [.no, .no] := is_lets 5 (by simp; omega)
  unfold schD lets at *
  refine fn_eq ?_
  walk_at "go body__law_lines e1 lk_letters lk_many hr"
  refine lc_rng (sl16 (by omega)) (fun i acc E => acc = ((List.range i).map trn).map lD ∧ E = [.fz (.int (n : Nat)), .fz (.ins 0 ["many", "letters"] [.int 2, .tup (((List.range n).map trn).map lD)]), .no, .no, .no]) ⟨rfl, rfl⟩ ?_ ?_
  · rintro i acc E hi ⟨rfl, rfl⟩
    walk_at "go l3"
    rw [List.range_succ, List.map_append, List.map_append]; rfl
  rintro acc E2 ⟨rfl, rfl⟩
  have hs : (((List.range n).map trn).map lD).length ≤ sizeLine := by simp only [List.length_map, List.length_range]; exact sl16 (by omega)
  have b2 : ((2 : Int) == 2) = true := rfl
  by_cases h30 : 30 < n
  · walk_at "go e2 hs lk_many lk_letters b2"
  have e3 := e_both (n := n) (by omega)
  have e4 : sem__law_is 8 [.fz (lets (bth n)), .fz (lets (bth n))] = .val (.bl true) [.no, .no] := is_lets 5 (by rw [(bth_ok n (by omega)).1]; omega)
  have e5 : sem__law_is 8 [.fz (.int 2), .fz (.int 2)] = .val (.bl true) [.no, .no] := is_int 7 2
  unfold schD lets at *
  walk_at "go e2 hs lk_many lk_letters b2 l0 hr"
  refine for_rng (fun i E => ∃ s3, E = [.fz (.int (n : Nat)), .fz (.ins 0 ["many", "letters"] [.int 2, .tup (((List.range n).map trn).map lD)]), .fz (.lst ((bth i).map lD)), s3, .no]) ⟨_, rfl⟩ ?_ ?_
  · rintro i E hi ⟨s3, rfl⟩
    have hb : ((bth i).map lD).length + 2 ≤ sizeLine := by rw [List.length_map, (bth_ok i (by omega)).1]; exact sl16 (by omega)
    walk_at "go l2 l3 hb"
    exact ⟨_, by rw [bth_succ, List.map_append]; rfl⟩
  · rintro E ⟨s3, rfl⟩
    have hb : ((bth n).map lD).length ≤ sizeLine := by rw [List.length_map, (bth_ok n (by omega)).1]; exact sl16 (by omega)
    walk_at "go e3 e4 e5 lk_many lk_letters hb"

/-! ## nets -/
abbrev P2 := Int × Int
def pD (p : P2) : D := .tup [.int p.1, .int p.2]
abbrev ltP (p q : P2) : Prop := HT.lexLt [p.1, p.2] [q.1, q.2] = true
theorem ltP_ne {p q : P2} (h : ltP p q) : p ≠ q := by
  rintro rfl
  simp [ltP, HT.lexLt_cons, HT.lexLt_nil_nil] at h
structure TiesOk (m : Int) (T : List P2) : Prop where
  ok : ∀ p, p ∈ T → 0 ≤ p.1 ∧ p.1 < p.2 ∧ p.2 < m
  up : T.Pairwise ltP
  le : T.length ≤ 64
def rowT (t : Int) (T : List P2) : List L3 := T.flatMap fun p => [(p.1, p.2, t), (p.2, p.1, t)]
def netL (T : List P2) (n : Nat) : List L3 := (List.range n).flatMap fun t : Nat => rowT (t : Int) T
theorem rowT_cons (t : Int) (p : P2) (T : List P2) : rowT t (p :: T) = [(p.1, p.2, t), (p.2, p.1, t)] ++ rowT t T := rfl
theorem rowT_snoc (t : Int) (p : P2) (T : List P2) : rowT t (T ++ [p]) = rowT t T ++ [(p.1, p.2, t), (p.2, p.1, t)] := by
  unfold rowT; rw [List.flatMap_append]; simp
theorem rowT_len (t : Int) : ∀ T : List P2, (rowT t T).length = 2 * T.length
  | [] => rfl
  | p :: T => by rw [rowT_cons, List.length_append, rowT_len t T]; simp; omega
theorem rowT_mem {t : Int} {T : List P2} {l : L3} (h : l ∈ rowT t T) : ∃ p, p ∈ T ∧ (l = (p.1, p.2, t) ∨ l = (p.2, p.1, t)) := by
  unfold rowT at h
  obtain ⟨p, hp, hl⟩ := List.mem_flatMap.mp h
  exact ⟨p, hp, by simpa using hl⟩
theorem rowT_nd (t : Int) : ∀ {T : List P2}, (∀ p, p ∈ T → p.1 < p.2) → T.Pairwise ltP → (rowT t T).Nodup
  | [], _, _ => List.nodup_nil
  | p :: T, h, hp => by
    obtain ⟨h1, h2⟩ := List.pairwise_cons.mp hp
    have hpp := h p (by simp)
    rw [rowT_cons, List.nodup_append]
    refine ⟨?_, rowT_nd t (fun q hq => h q (by simp [hq])) h2, fun a ha b hb e => ?_⟩
    · refine List.nodup_cons.mpr ⟨fun z => ?_, List.nodup_cons.mpr ⟨by simp, List.nodup_nil⟩⟩
      simp only [List.mem_singleton, Prod.mk.injEq] at z
      omega
    · subst e
      obtain ⟨q, hq, hb⟩ := rowT_mem hb
      have hqq := h q (by simp [hq])
      have hne := ltP_ne (h1 q hq)
      simp only [List.mem_cons, List.not_mem_nil, or_false] at ha
      rcases ha with rfl | rfl
      · rcases hb with hb | hb
        · simp only [Prod.mk.injEq] at hb
          exact hne (Prod.ext hb.1 hb.2.1)
        · simp only [Prod.mk.injEq] at hb; omega
      · rcases hb with hb | hb
        · simp only [Prod.mk.injEq] at hb; omega
        · simp only [Prod.mk.injEq] at hb
          exact hne (Prod.ext hb.2.1 hb.1)
theorem netL_succ (T : List P2) (n : Nat) : netL T (n + 1) = netL T n ++ rowT (n : Int) T := by
  unfold netL; rw [List.range_succ, List.flatMap_append]; simp
theorem netL_ok {m : Int} {T : List P2} (h : TiesOk m T) : ∀ n : Nat, n ≤ 60 → (netL T n).length = 2 * T.length * n ∧ (∀ l, l ∈ netL T n → LetOk m l ∧ l.2.2 < n) ∧ Rises (netL T n) ∧ (netL T n).Nodup
  | 0, _ => ⟨by simp [netL], fun l hl => by simp [netL] at hl, List.Pairwise.nil, List.nodup_nil⟩
  | n + 1, hn => by
    obtain ⟨q1, q2, q3, q4⟩ := netL_ok h n (by omega)
    have mem : ∀ l, l ∈ rowT (n : Int) T → LetOk m l ∧ l.2.2 = (n : Int) := fun l hl => by
      obtain ⟨p, hp, e⟩ := rowT_mem hl
      obtain ⟨a, b, c⟩ := h.ok p hp
      rcases e with rfl | rfl
      · exact ⟨⟨by simp only; omega, by simp only; omega, by simp only; omega, by simp only; omega, by simp only; omega, by simp only; omega, by simp only; omega⟩, rfl⟩
      · exact ⟨⟨by simp only; omega, by simp only; omega, by simp only; omega, by simp only; omega, by simp only; omega, by simp only; omega, by simp only; omega⟩, rfl⟩
    rw [netL_succ]
    refine ⟨by rw [List.length_append, q1, rowT_len, Nat.mul_succ], fun l hl => ?_, ?_, ?_⟩
    · rcases List.mem_append.mp hl with hl | hl
      · have := q2 l hl; exact ⟨this.1, by omega⟩
      · have := mem l hl; exact ⟨this.1, by omega⟩
    · refine List.pairwise_append.mpr ⟨q3, ?_, fun a ha b hb => ?_⟩
      · have key : ∀ ls : List L3, (∀ l, l ∈ ls → l.2.2 = (n : Int)) → Rises ls := by
          intro ls
          induction ls with
          | nil => exact fun _ => List.Pairwise.nil
          | cons x xs ih =>
            intro hx
            refine List.pairwise_cons.mpr ⟨fun y hy => ?_, ih fun l hl => hx l (by simp [hl])⟩
            rw [hx x (by simp), hx y (by simp [hy])]; exact Int.le_refl _
        exact key _ fun l hl => (mem l hl).2
      · have h1 := (q2 a ha).2
        have h2 := (mem b hb).2
        omega
    · rw [List.nodup_append]
      refine ⟨q4, rowT_nd _ (fun p hp => (h.ok p hp).2.1) h.up, fun a ha b hb e => ?_⟩
      have h1 := (q2 a ha).2
      have h2 := (mem b hb).2
      rw [e] at h1; omega
theorem net_sch {m : Int} {T : List P2} (h : TiesOk m T) (m0 : 2 ≤ m) (m1 : m ≤ 8) {n : Nat} (hn : n ≤ 60) (h60 : 2 * T.length * n ≤ 60) : SchOk m (netL T n) := by
  obtain ⟨q1, q2, q3, q4⟩ := netL_ok h n hn
  exact ⟨m0, m1, by omega, fun l hl => (q2 l hl).1, q3, q4⟩
theorem x_lt2 {a b c d : Int} : ltT [.int a, .int b] [.int c, .int d] = some (.bl (HT.lexLt [a, b] [c, d])) := rfl
theorem ties_zip : ∀ {xs : List P2}, xs.Pairwise ltP → ((xs.zip (xs.drop 1)).all fun p => HT.lexLt [p.1.1, p.1.2] [p.2.1, p.2.2]) = true
  | [], _ => rfl
  | [_], _ => rfl
  | x :: y :: r, h => by
    have h2 := List.pairwise_cons.mp h
    have := ties_zip h2.2
    simp only [List.drop_succ_cons, List.drop_zero, List.zip_cons_cons, List.all_cons, Bool.and_eq_true] at this ⊢
    exact ⟨h2.1 y (by simp), this⟩
theorem pl_pD (p : P2) : Pl (pD p) := .tup _ (by simp) (by simp; exact ⟨.int _, .int _⟩)
theorem pD0 {p : P2} : oIx (pD p) (.int 0) = some (.int p.1) := rfl
theorem pD1 {p : P2} : oIx (pD p) (.int 1) = some (.int p.2) := rfl
theorem x_ltP {p q : P2} : oLt (pD p) (pD q) = some (.bl (HT.lexLt [p.1, p.2] [q.1, q.2])) := rfl
theorem e_are_ties {m : Int} {T : List P2} (h : TiesOk m T) : sem_are_ties [.fz (.int m), .fz (.tup (T.map pD))] = .val (.bl true) [.no, .no] := by
  have hle := h.le
  have hs : T.length ≤ sizeLine := sl16 (by omega)
  have a1 : oAll [.lst (T.map fun _ => .bl true)] = some (.bl true) := by rw [oAll_map]; simp
  refine fn_eq ?_
  walk_at "go body_are_ties"
  refine lc_fun (k := pD) hs (fun _ => .bl true) (fun p hp => ?_) ?_
  · have e1 := e_is_sized (pl_pD p) 2 2
    rw [show szd (pD p) 2 2 = true from rfl] at e1
    walk_at "go e1"
  walk_at "go a1"
  refine lc2_maps (kf := pD) (xs := T) (fun r acc E => ∃ pre, T = pre ++ r ∧ acc = (List.range (2 * pre.length)).map (fun _ => D.bl true) ∧ E = [.fz (.int m), .fz (.tup (T.map pD)), .no, .no, .no, .no]) ⟨[], rfl, rfl, rfl⟩ ?_ ?_
  · rintro p r acc E ⟨pre, e, rfl, rfl⟩
    obtain ⟨p0, p1, p2⟩ := h.ok p (by rw [e]; simp)
    have it : itAny (pD p) = some ([p.1, p.2].map D.int) := rfl
    have hpl : pre.length ≤ 64 := by have := congrArg List.length e; rw [List.length_append, List.length_cons] at this; omega
    walk_at "go it"
    refine lca_fun (kf := D.int) (hf := fun _ => .bl true) (xs := [p.1, p.2]) ?_ (fun j hj => ?_) ?_
    · rw [List.length_map, List.length_range]; exact sl16 (by simp; omega)
    · have e2 := e_is_between (.int j) 0 (m - 1)
      have hj2 : 0 ≤ j ∧ j ≤ m - 1 := by
        simp only [List.mem_cons, List.not_mem_nil, or_false] at hj
        rcases hj with rfl | rfl <;> omega
      rw [btw_int, decide_eq_true hj2.1, decide_eq_true hj2.2] at e2
      walk_at "go e2"
    · refine ⟨pre ++ [p], by simp [e], ?_, rfl⟩
      rw [List.length_append, List.length_singleton, show 2 * (pre.length + 1) = 2 * pre.length + 1 + 1 by omega, List.range_succ, List.range_succ, List.map_append, List.map_append, List.append_assoc]
      rfl
  rintro acc E2 ⟨pre, e, rfl, rfl⟩
  have a2 : oAll [.lst ((List.range (2 * pre.length)).map fun _ => D.bl true)] = some (.bl true) := by rw [oAll_map]; simp
  walk_at "go a2"
  refine lc_fun (k := pD) hs (fun _ => .bl true) (fun p hp => ?_) ?_
  · obtain ⟨p0, p1, p2⟩ := h.ok p hp
    have q0 := pD0 (p := p)
    have q1 := pD1 (p := p)
    have dl : decide (p.1 < p.2) = true := decide_eq_true p1
    walk_at "go q0 q1 dl"
  walk_at "go a1 drop_map' zipD_map"
  have hz : (T.zip (T.drop 1)).length ≤ sizeLine := by rw [List.length_zip]; omega
  refine lc_fun (k := fun p : P2 × P2 => D.tup [pD p.1, pD p.2]) hz (fun p => .bl (HT.lexLt [p.1.1, p.1.2] [p.2.1, p.2.2])) (fun p hp => ?_) ?_
  · walk_at "go pD x_lt2"
  have a3 : oAll [.lst ((T.zip (T.drop 1)).map fun p => .bl (HT.lexLt [p.1.1, p.1.2] [p.2.1, p.2.2]))] = some (.bl true) := by rw [oAll_map, ties_zip h.up]
  walk_at "go a3"
theorem gt60 {T : List P2} {n : Nat} (h : 2 * T.length * n ≤ 60) : 2 * (T.length : Int) * (n : Int) ≤ 60 := by exact_mod_cast h
theorem gt60' {T : List P2} {n : Nat} (h : ¬ 2 * T.length * n ≤ 60) : 60 < 2 * (T.length : Int) * (n : Int) := by
  have : 60 < 2 * T.length * n := by omega
  exact_mod_cast this
theorem e_net {m : Int} {T : List P2} {n : Nat} (h : TiesOk m T) (m0 : 2 ≤ m) (m1 : m ≤ 8) (hn : n ≤ 60) (h60 : 2 * T.length * n ≤ 60) :
    sem_net_schedule [.fz (.int m), .fz (.tup (T.map pD)), .fz (.int (n : Nat))] = .val (schD (.int m) (lets (netL T n))) [.no, .no, .no] := by
  have hle := h.le
  have so := net_sch h m0 m1 hn h60
  have e1 := e_is_between (.int m) 2 8
  rw [btw_int, decide_eq_true m0, decide_eq_true m1] at e1
  have e2 := e_are_ties h
  have e3 := e_is_between (.int (n : Nat)) 0 60
  rw [btw_int, decide_eq_true (by omega), decide_eq_true (by omega)] at e3
  have hg := gt60 h60
  have hr := itR_nat (n := n) (by omega)
  have l0 : (0 : Nat) ≤ sizeLine := sl16 (by omega)
  have l2 : (2 : Nat) ≤ sizeLine := sl16 (by omega)
  have l3 : (3 : Nat) ≤ sizeLine := sl16 (by omega)
  have hs : T.length ≤ sizeLine := sl16 (by omega)
  have e4 := e_new (k := 0) so
  unfold schD lets at *
  refine fn_eq ?_
  walk_at "go body_net_schedule e1 e2 e3 List.length_map hs l0 hr"
  refine for_rng (fun i E => ∃ s4 s5 s6, E = [.fz (.int m), .fz (.tup (T.map pD)), .fz (.int (n : Nat)), .own (.lst ((netL T i).map lD)), s4, s5, s6]) ⟨_, _, _, rfl⟩ ?_ ?_
  · rintro i E hi ⟨s4, s5, s6, rfl⟩
    walk_at "go"
    refine for_maps (f := pD) (xs := T) (fun rs E => ∃ pre s5 s6, T = pre ++ rs ∧ E = [.fz (.int m), .fz (.tup (T.map pD)), .fz (.int (n : Nat)), .own (.lst ((netL T i ++ rowT i pre).map lD)), .fz (.int (i : Nat)), s5, s6]) ⟨[], _, _, rfl, by simp [rowT]; exact ⟨rfl, rfl⟩⟩ ?_ ?_
    · rintro p rs E ⟨pre, s5, s6, e, rfl⟩
      have hb : ((netL T i ++ rowT i pre).map lD).length + 2 ≤ sizeLine := by
        have hpl : pre.length ≤ 64 := by have := congrArg List.length e; rw [List.length_append, List.length_cons] at this; omega
        have hq := (netL_ok h i (by omega)).1
        have hq2 : 2 * T.length * i ≤ 128 * 60 := Nat.mul_le_mul (by omega) (by omega)
        rw [List.length_map, List.length_append, rowT_len, hq]
        exact sl16 (by omega)
      walk_at "go pD l2 l3 hb"
      exact ⟨pre ++ [p], _, _, by simp [e], by rw [rowT_snoc]; simp only [List.map_append, List.append_assoc]; rfl⟩
    · rintro E ⟨pre, s5, s6, e, rfl⟩
      rw [List.append_nil] at e
      subst e
      walk_at "go"
      exact ⟨_, _, _, by rw [netL_succ]⟩
  · rintro E ⟨s4, s5, s6, rfl⟩
    have hb : ((netL T n).map lD).length ≤ sizeLine := by rw [List.length_map]; have := so.le; exact sl16 (by omega)
    walk_at "go e4 hb"
theorem e_net_x {m : Int} {T : List P2} {n : Nat} (h : TiesOk m T) (m0 : 2 ≤ m) (m1 : m ≤ 8) (hn : n ≤ 60) (h60 : ¬ 2 * T.length * n ≤ 60) :
    sem_net_schedule [.fz (.int m), .fz (.tup (T.map pD)), .fz (.int (n : Nat))] = .exc 2 (some ("most", .int 60)) [.no, .no, .no] := by
  have hle := h.le
  have e1 := e_is_between (.int m) 2 8
  rw [btw_int, decide_eq_true m0, decide_eq_true m1] at e1
  have e2 := e_are_ties h
  have e3 := e_is_between (.int (n : Nat)) 0 60
  rw [btw_int, decide_eq_true (by omega), decide_eq_true (by omega)] at e3
  have hg := gt60' h60
  have hs : T.length ≤ sizeLine := sl16 (by omega)
  refine fn_exc ?_
  walk_at "gos body_net_schedule e1 e2 e3 List.length_map hs"
theorem e_lnet {m : Int} {T : List P2} {n : Nat} (h : TiesOk m T) (m0 : 2 ≤ m) (m1 : m ≤ 8) (hn : n ≤ 60) :
    sem__law_net [.fz (.int m), .fz (.tup (T.map pD)), .fz (.int (n : Nat))] = .val (.bl true) [.no, .no, .no] := by
  have hle := h.le
  have hs : T.length ≤ sizeLine := sl16 (by omega)
  have l0 : (0 : Nat) ≤ sizeLine := sl16 (by omega)
  have l2 : (2 : Nat) ≤ sizeLine := sl16 (by omega)
  have l3 : (3 : Nat) ≤ sizeLine := sl16 (by omega)
  have hr := itR_nat (n := n) (by omega)
  refine fn_eq ?_
  by_cases h60 : 2 * T.length * n ≤ 60
  · have hg := gt60 h60
    have e1 := e_net h m0 m1 hn h60
    have so := net_sch h m0 m1 hn h60
    have hso := so.le
    have e2 : sem__law_is 8 [.fz (.int m), .fz (.int m)] = .val (.bl true) [.no, .no] := is_int 7 m
    have e3 : sem__law_is 8 [.fz (lets (netL T n)), .fz (lets (netL T n))] = .val (.bl true) [.no, .no] := is_lets 5 (by omega)
    unfold schD lets at *
    unfold body__law_net
    refine seq_cut (fun E => E = [.fz (.int m), .fz (.tup (T.map pD)), .fz (.int (n : Nat)), .fz .non, .fz .non, .no, .no, .no, .no, .no]) ?_ ?_
    · walk_at "go l2"
    rintro E rfl
    walk_at "gos e1 List.length_map hs hr l0"
    refine for_rng (fun i E => ∃ s6 s8 s9, E = [.fz (.int m), .fz (.tup (T.map pD)), .fz (.int (n : Nat)), .fz .non, .fz (.ins 0 ["many", "letters"] [.int m, .tup ((netL T n).map lD)]), .fz (.lst ((netL T i).map lD)), s6, .no, s8, s9]) ⟨_, _, _, rfl⟩ ?_ ?_
    · rintro i E hi ⟨s6, s8, s9, rfl⟩
      walk_at "go"
      refine for_maps (f := pD) (xs := T) (fun rs E => ∃ pre s8 s9, T = pre ++ rs ∧ E = [.fz (.int m), .fz (.tup (T.map pD)), .fz (.int (n : Nat)), .fz .non, .fz (.ins 0 ["many", "letters"] [.int m, .tup ((netL T n).map lD)]), .fz (.lst ((netL T i ++ rowT i pre).map lD)), .fz (.int (i : Nat)), .no, s8, s9]) ⟨[], _, _, rfl, by simp [rowT]; exact ⟨rfl, rfl⟩⟩ ?_ ?_
      · rintro p rs E ⟨pre, s8, s9, e, rfl⟩
        have hb : ((netL T i ++ rowT i pre).map lD).length + 2 ≤ sizeLine := by
          have hpl : pre.length ≤ 64 := by have := congrArg List.length e; rw [List.length_append, List.length_cons] at this; omega
          have hq := (netL_ok h i (by omega)).1
          have hq2 : 2 * T.length * i ≤ 128 * 60 := Nat.mul_le_mul (by omega) (by omega)
          rw [List.length_map, List.length_append, rowT_len, hq]
          exact sl16 (by omega)
        walk_at "go pD l2 l3 hb"
        exact ⟨pre ++ [p], _, _, by simp [e], by rw [rowT_snoc]; simp only [List.map_append, List.append_assoc]; rfl⟩
      · rintro E ⟨pre, s8, s9, e, rfl⟩
        rw [List.append_nil] at e
        subst e
        walk_at "go"
        exact ⟨_, _, _, by rw [netL_succ]⟩
    · rintro E ⟨s6, s8, s9, rfl⟩
      have hb : ((netL T n).map lD).length ≤ sizeLine := by rw [List.length_map]; exact sl16 (by omega)
      walk_at "go e2 e3 lk_many lk_letters hb"
  · have hg := gt60' h60
    have e1 := e_net_x h m0 m1 hn h60
    have e2 : sem__law_is 8 [.fz (.int 60), .fz (.int 60)] = .val (.bl true) [.no, .no] := is_int 7 60
    unfold body__law_net
    refine seq_cut (fun E => E = [.fz (.int m), .fz (.tup (T.map pD)), .fz (.int (n : Nat)), .fz .non, .fz .non, .no, .no, .no, .no, .no]) ?_ ?_
    · walk_at "go l2"
    rintro E rfl
    refine seq_cut (fun E => E = [.fz (.int m), .fz (.tup (T.map pD)), .fz (.int (n : Nat)), .fz (.int 60), .fz .non, .no, .no, .no, .no, .no]) ?_ ?_
    · walk_at "gox e1 tst_TooMany"
    rintro E rfl
    walk_at "go e2 List.length_map hs"

theorem kp_snoc (bar : List Int) (x : L3) : ∀ (n : Nat) (a : List L3), kp bar n (a ++ [x]) = kp bar n a ++ (if ((n + a.length : Nat) : Int) ∈ bar then [] else [x])
  | n, [] => by
    show (if (n : Int) ∈ bar then [] else [x]) = _
    simp [kp]
  | n, y :: a => by
    rw [List.cons_append, kp, kp, kp_snoc bar x (n + 1) a, List.length_cons, show n + 1 + a.length = n + (a.length + 1) by omega]
    by_cases h : (n : Int) ∈ bar
    · rw [if_pos h, if_pos h]
    · rw [if_neg h, if_neg h]; rfl
theorem rangeD_eq (n : Nat) : rangeD 0 n = ((List.range n).map fun i : Nat => (i : Int)).map D.int := by
  unfold rangeD; rw [List.map_map]; simp [Function.comp_def]
theorem up_range (n : Nat) : Up ((List.range n).map fun i : Nat => (i : Int)) := List.pairwise_map.mpr (List.pairwise_lt_range.imp fun {a b} h => by omega)
theorem ltP_fst {p q : P2} (h : p.1 < q.1) : ltP p q := by
  unfold ltP
  rw [HT.lexLt_cons, if_neg (by omega)]
  exact decide_eq_true h
theorem ltP_snd {p q : P2} (h : p.1 = q.1) (h2 : p.2 < q.2) : ltP p q := by
  unfold ltP
  rw [HT.lexLt_cons, if_pos h, HT.lexLt_cons, if_neg (by omega)]
  exact decide_eq_true h2
theorem e_law {ns : List Int} (hn : ns.length ≤ 63) : wpF (sem_law [.fz (.scr ns)]) (fun d _ => d = .bl true) := by
  have l0 : (0 : Nat) ≤ sizeLine := sl16 (by omega)
  have l1 : (1 : Nat) ≤ sizeLine := sl16 (by omega)
  have l2 : (2 : Nat) ≤ sizeLine := sl16 (by omega)
  have l3 : (3 : Nat) ≤ sizeLine := sl16 (by omega)
  have l4 : (4 : Nat) ≤ sizeLine := sl16 (by omega)
  have l6 : (6 : Nat) ≤ sizeLine := sl16 (by omega)
  have l7 : (7 : Nat) ≤ sizeLine := sl16 (by omega)
  have l8 : (8 : Nat) ≤ sizeLine := sl16 (by omega)
  have l13 : (13 : Nat) ≤ sizeLine := sl16 (by omega)
  refine fn_run ?_
  unfold body_law
  refine seq_cut (fun E => ∃ h, E = [.fz (.scr ns), .own h, .no, .no, .no, .no, .no, .no, .no, .no, .no, .no, .no, .no, .no, .no] ∧ HandD h) ?_ ?_
  · walk_at "go"
    refine call_byN (hand_ok hn) ?_
    rintro h bs ⟨hh, rfl⟩
    walk_at "go"
    exact ⟨_, rfl, hh⟩
  rintro E ⟨h, rfl, hh⟩
  refine seq_cut (fun E => ∃ h many, E = [.fz (.scr ns), .own h, .fz (.int many), .no, .no, .no, .no, .no, .no, .no, .no, .no, .no, .no, .no, .no] ∧ HandD h ∧ 2 ≤ many ∧ many ≤ 8) ?_ ?_
  · walk_at "go"
    refine call_by (draw_ok hh (by omega) (by omega)) ?_
    rintro d bs ⟨m, h1, rfl, rfl, hh1, m0, m1⟩
    walk_at "go"
    exact ⟨_, _, rfl, hh1, by omega, by omega⟩
  rintro E ⟨h, many, rfl, hh, m0, m1⟩
  refine seq_cut (fun E => ∃ h ls, E = [.fz (.scr ns), .own h, .fz (.int many), .fz (.tup (ls.map lD)), .no, .no, .no, .no, .no, .no, .no, .no, .no, .no, .no, .no] ∧ HandD h ∧ SchOk many ls) ?_ ?_
  · walk_at "go l6"
    refine call_by (some_ok hh (by simp) (by simp)) ?_
    rintro d bs ⟨h2, hd, rfl, hh2⟩
    obtain ⟨most, rfl, b0, b1⟩ : ∃ b : Int, d = .int b ∧ 0 ≤ b ∧ b ≤ 60 := by
      simp only [List.mem_cons, List.not_mem_nil, or_false] at hd
      rcases hd with rfl | rfl | rfl | rfl | rfl | rfl <;> exact ⟨_, rfl, by omega, by omega⟩
    walk_at "go"
    refine call_by (letters_ok hh2 m0 m1 b0 b1) ?_
    rintro d bs ⟨ls, h3, rfl, rfl, hh3, so⟩
    walk_at "go"
    exact ⟨_, _, rfl, hh3, so⟩
  rintro E ⟨h, ls, rfl, hh, so⟩
  refine seq_cut (fun E => ∃ h ls, E = [.fz (.scr ns), .own h, .fz (.int many), .fz (.tup (ls.map lD)), .no, .no, .no, .no, .no, .no, .no, .no, .no, .no, .no, .no] ∧ HandD h ∧ ls.length ≤ 62 ∧ (ls.length ≤ 60 → SchOk many ls)) ?_ ?_
  · walk_at "go"
    refine call_by (draw_ok hh (by omega) (by omega)) ?_
    rintro d bs ⟨r, h1, rfl, rfl, hh1, r0, r1⟩
    walk_at "go"
    · refine call_by (full_ok hh1 m0 m1) ?_
      rintro d bs ⟨ls, h2, rfl, rfl, hh2, hl, ho⟩
      walk_at "go"
      exact ⟨_, _, rfl, hh2, hl, ho⟩
    · exact ⟨_, _, rfl, hh1, by have := so.le; omega, fun _ => so⟩
  clear so hh
  rintro E ⟨h, ls, rfl, hh, hl, ho⟩
  have pls : Pl (.tup (ls.map lD)) := pl_lets (by omega)
  refine seq_cut (fun E => E = [.fz (.scr ns), .own h, .fz (.int many), .fz (.tup (ls.map lD)), .no, .no, .no, .no, .no, .no, .no, .no, .no, .no, .no, .no]) ?_ ?_
  · have e1 := e_made (.int many) pls
    have e2 := e_part (.int many) pls
    have e3 := ne_partD (.int many) (.tup (ls.map lD))
    walk_at "go e1 e2 e3"
  rintro E rfl
  refine seq_cut (fun E => ∃ h s4 s5 s6 s7 s8 s9 s10 s11 s12 s13 s14 s15, E = [.fz (.scr ns), .own h, .fz (.int many), .fz (.tup (ls.map lD)), s4, s5, s6, s7, s8, s9, s10, s11, s12, s13, s14, s15] ∧ HandD h) ?_ ?_
  · have hs : (ls.map lD).length ≤ sizeLine := by rw [List.length_map]; exact sl16 (by omega)
    by_cases h60 : ls.length ≤ 60
    · have so := ho h60
      have hl60 : ((ls.map lD).length : Int) = ls.length := by rw [List.length_map]
      have hr : itR [.int (ls.length : Int)] = some (rangeD 0 ls.length) := itR_nat (by omega)
      walk_at "go"
      refine call_by (equals_ok hh so) ?_
      rintro d bs ⟨h1, rfl, rfl, hh1⟩
      walk_at "go hl60 hr"
      refine lc_rng (sl16 (by omega)) (fun i acc E => ∃ (h : D) (bar : List Int), E = [.fz (.scr ns), .own h, .fz (.int many), .fz (.tup (ls.map lD)), .no, .no, .no, .no, .no, .no, .no, .no, .no, .no, .no, .no] ∧ HandD h ∧ acc = bar.map .int ∧ Up bar ∧ (∀ x, x ∈ bar → 0 ≤ x ∧ x < i) ∧ bar.length ≤ i) ?_ ?_ ?_
      · exact ⟨h1, [], rfl, hh1, rfl, List.Pairwise.nil, fun x hx => by simp at hx, Nat.le_refl _⟩
      · rintro i acc E hi ⟨h, bar, rfl, hh, rfl, up, bd, hb⟩
        walk_at "go"
        refine call_by (draw_ok hh (by omega) (by omega)) ?_
        rintro d bs ⟨r, h1, rfl, rfl, hh1, r0, r1⟩
        walk_at "go"
        · refine ⟨h1, bar ++ [(i : Int)], rfl, hh1, by rw [List.map_append]; rfl, List.pairwise_append.mpr ⟨up, List.pairwise_singleton .., fun y hy z hz => ?_⟩, fun y hy => ?_, by simp; omega⟩
          · cases List.mem_singleton.mp hz; exact (bd y hy).2
          · rcases List.mem_append.mp hy with hy | hy
            · have := bd y hy; omega
            · cases List.mem_singleton.mp hy; omega
        · exact ⟨h1, bar, rfl, hh1, rfl, up, fun y hy => by have := bd y hy; omega, by omega⟩
      clear hh hh1
      rintro acc E2 ⟨h, bar, rfl, hh, rfl, up, bd, hb⟩
      have hbs : (bar.map D.int).length ≤ sizeLine := by rw [List.length_map]; exact sl16 (by omega)
      walk_at "go hbs"
      refine call_by (draw_ok hh (by omega) (by omega)) ?_
      rintro d bs ⟨r, h1, rfl, rfl, hh1, r0, r1⟩
      walk_at "go hl60 l0 l2"
      · refine call_by (some_ok hh1 (by simp) (by simp)) ?_
        rintro d bs ⟨h2, hd, rfl, hh2⟩
        simp only [List.mem_cons, List.not_mem_nil, or_false] at hd
        rcases hd with rfl | rfl
        · have nl : (.tup [] : D) = .tup (([] : List Int).map .int) := rfl
          rw [nl]
          have e1 := e_new (k := 0) so
          have e2 := e_without so List.Pairwise.nil (fun x hx => by simp at hx) (by simp)
          have kl := (kp_sub ([] : List Int) 0 ls).length_le
          have e6 : sem__law_is 8 [.fz (lets (kp ([] : List Int) 0 ls)), .fz (lets (kp ([] : List Int) 0 ls))] = .val (.bl true) [.no, .no] := is_lets 5 (by omega)
          have e7 : sem__law_is 8 [.fz (.int many), .fz (.int many)] = .val (.bl true) [.no, .no] := is_int 7 many
          unfold schD lets at e1 e2
          unfold lets at e6
          walk_at "go e1 e2 hr hl60"
          refine lc_rng (sl16 (by omega)) (fun i acc E => acc = (kp ([] : List Int) 0 (ls.take i)).map lD ∧ E = [.fz (.scr ns), .own h2, .fz (.int many), .fz (.tup (ls.map lD)), .no, .no, .no, .no, .no, .fz (.tup ((([] : List Int)).map .int)), .fz (.ins 0 ["many", "letters"] [.int many, .tup ((kp ([] : List Int) 0 ls).map lD)]), .no, .no, .no, .no, .no]) ⟨rfl, rfl⟩ ?_ ?_
          · rintro i acc E hi ⟨rfl, rfl⟩
            have gx : atI (ls.map lD) (i : Int) = some (lD ls[i]) := by rw [atI_nat', List.getElem?_map, List.getElem?_eq_getElem hi]; rfl
            have e5 := Enc.int.oNotInT (by omega) (i : Int) ([] : List Int)
            have ks := kp_snoc ([] : List Int) ls[i] 0 (ls.take i)
            have hti : (0 + (ls.take i).length : Nat) = i := by rw [List.length_take]; omega
            rw [List.take_append_getElem, hti] at ks
            by_cases hin : (i : Int) ∈ ([] : List Int)
            · rw [decide_eq_true hin] at e5
              rw [if_pos hin, List.append_nil] at ks
              walk_at "go gx e5"
              rw [ks]
            · rw [decide_eq_false hin] at e5
              rw [if_neg hin] at ks
              walk_at "go gx e5"
              rw [ks, List.map_append]; rfl
          rintro acc E2 ⟨rfl, rfl⟩
          have htk : ls.take ls.length = ls := List.take_length
          have hks : ((kp ([] : List Int) 0 ls).map lD).length ≤ sizeLine := by rw [List.length_map]; exact sl16 (by omega)
          rw [htk]
          walk_at "go e6 e7 hks lk_many lk_letters"
          exact ⟨_, _, _, _, _, _, _, _, _, _, _, _, _, rfl, hh2⟩
        · have nl := rangeD_eq ls.length
          have tn : (ls.length : Int).toNat = ls.length := rfl
          rw [tn, nl]
          have e1 := e_new (k := 0) so
          have e2 := e_without so (up_range ls.length) (fun x hx => by obtain ⟨j, hj, rfl⟩ := List.mem_map.mp hx; have := List.mem_range.mp hj; omega) (by simp; omega)
          have kl := (kp_sub ((List.range ls.length).map fun i : Nat => (i : Int)) 0 ls).length_le
          have e6 : sem__law_is 8 [.fz (lets (kp ((List.range ls.length).map fun i : Nat => (i : Int)) 0 ls)), .fz (lets (kp ((List.range ls.length).map fun i : Nat => (i : Int)) 0 ls))] = .val (.bl true) [.no, .no] := is_lets 5 (by omega)
          have e7 : sem__law_is 8 [.fz (.int many), .fz (.int many)] = .val (.bl true) [.no, .no] := is_int 7 many
          unfold schD lets at e1 e2
          unfold lets at e6
          walk_at "go e1 e2 hr hl60"
          refine lc_rng (sl16 (by omega)) (fun i acc E => acc = (kp ((List.range ls.length).map fun i : Nat => (i : Int)) 0 (ls.take i)).map lD ∧ E = [.fz (.scr ns), .own h2, .fz (.int many), .fz (.tup (ls.map lD)), .no, .no, .no, .no, .no, .fz (.tup ((((List.range ls.length).map fun i : Nat => (i : Int))).map .int)), .fz (.ins 0 ["many", "letters"] [.int many, .tup ((kp ((List.range ls.length).map fun i : Nat => (i : Int)) 0 ls).map lD)]), .no, .no, .no, .no, .no]) ⟨rfl, rfl⟩ ?_ ?_
          · rintro i acc E hi ⟨rfl, rfl⟩
            have gx : atI (ls.map lD) (i : Int) = some (lD ls[i]) := by rw [atI_nat', List.getElem?_map, List.getElem?_eq_getElem hi]; rfl
            have e5 := Enc.int.oNotInT (by omega) (i : Int) ((List.range ls.length).map fun i : Nat => (i : Int))
            have ks := kp_snoc ((List.range ls.length).map fun i : Nat => (i : Int)) ls[i] 0 (ls.take i)
            have hti : (0 + (ls.take i).length : Nat) = i := by rw [List.length_take]; omega
            rw [List.take_append_getElem, hti] at ks
            by_cases hin : (i : Int) ∈ ((List.range ls.length).map fun i : Nat => (i : Int))
            · rw [decide_eq_true hin] at e5
              rw [if_pos hin, List.append_nil] at ks
              walk_at "go gx e5"
              rw [ks]
            · rw [decide_eq_false hin] at e5
              rw [if_neg hin] at ks
              walk_at "go gx e5"
              rw [ks, List.map_append]; rfl
          rintro acc E2 ⟨rfl, rfl⟩
          have htk : ls.take ls.length = ls := List.take_length
          have hks : ((kp ((List.range ls.length).map fun i : Nat => (i : Int)) 0 ls).map lD).length ≤ sizeLine := by rw [List.length_map]; exact sl16 (by omega)
          rw [htk]
          walk_at "go e6 e7 hks lk_many lk_letters"
          exact ⟨_, _, _, _, _, _, _, _, _, _, _, _, _, rfl, hh2⟩
      ·
        have e1 := e_new (k := 0) so
        have e2 := e_without so up (fun x hx => by have := bd x hx; omega) (by omega)
        have kl := (kp_sub bar 0 ls).length_le
        have e6 : sem__law_is 8 [.fz (lets (kp bar 0 ls)), .fz (lets (kp bar 0 ls))] = .val (.bl true) [.no, .no] := is_lets 5 (by omega)
        have e7 : sem__law_is 8 [.fz (.int many), .fz (.int many)] = .val (.bl true) [.no, .no] := is_int 7 many
        unfold schD lets at e1 e2
        unfold lets at e6
        walk_at "go e1 e2 hr hl60"
        refine lc_rng (sl16 (by omega)) (fun i acc E => acc = (kp bar 0 (ls.take i)).map lD ∧ E = [.fz (.scr ns), .own h1, .fz (.int many), .fz (.tup (ls.map lD)), .no, .no, .no, .no, .no, .fz (.tup ((bar).map .int)), .fz (.ins 0 ["many", "letters"] [.int many, .tup ((kp bar 0 ls).map lD)]), .no, .no, .no, .no, .no]) ⟨rfl, rfl⟩ ?_ ?_
        · rintro i acc E hi ⟨rfl, rfl⟩
          have gx : atI (ls.map lD) (i : Int) = some (lD ls[i]) := by rw [atI_nat', List.getElem?_map, List.getElem?_eq_getElem hi]; rfl
          have e5 := Enc.int.oNotInT (by omega) (i : Int) bar
          have ks := kp_snoc bar ls[i] 0 (ls.take i)
          have hti : (0 + (ls.take i).length : Nat) = i := by rw [List.length_take]; omega
          rw [List.take_append_getElem, hti] at ks
          by_cases hin : (i : Int) ∈ bar
          · rw [decide_eq_true hin] at e5
            rw [if_pos hin, List.append_nil] at ks
            walk_at "go gx e5"
            rw [ks]
          · rw [decide_eq_false hin] at e5
            rw [if_neg hin] at ks
            walk_at "go gx e5"
            rw [ks, List.map_append]; rfl
        rintro acc E2 ⟨rfl, rfl⟩
        have htk : ls.take ls.length = ls := List.take_length
        have hks : ((kp bar 0 ls).map lD).length ≤ sizeLine := by rw [List.length_map]; exact sl16 (by omega)
        rw [htk]
        walk_at "go e6 e7 hks lk_many lk_letters"
        exact ⟨_, _, _, _, _, _, _, _, _, _, _, _, _, rfl, hh1⟩
    · have hl60 : ((ls.map lD).length : Int) = ls.length := by rw [List.length_map]
      walk_at "go hl60"
      exact ⟨_, _, _, _, _, _, _, _, _, _, _, _, _, rfl, hh⟩
  clear hh
  rintro E ⟨h, s4, s5, s6, s7, s8, s9, s10, s11, s12, s13, s14, s15, rfl, hh⟩
  refine seq_cut (fun E => ∃ h s4 s5 s6 s7 s8 s9 s10 s11 s12 s13 s14 s15, E = [.fz (.scr ns), .own h, .fz (.int many), .fz (.tup (ls.map lD)), s4, s5, s6, s7, s8, s9, s10, s11, s12, s13, s14, s15] ∧ HandD h) ?_ ?_
  · have hr3 : itR [.int 3] = some (rangeD 0 3) := itR_nat (n := 3) (by omega)
    walk_at "go hr3"
    refine for_rng (fun n E => ∃ h s4 s5 s6 s7 s8 s9 s10 s11 s12 s13 s14 s15, E = [.fz (.scr ns), .own h, .fz (.int many), .fz (.tup (ls.map lD)), s4, s5, s6, s7, s8, s9, s10, s11, s12, s13, s14, s15] ∧ HandD h) ⟨h, _, _, _, _, _, _, _, _, _, _, _, _, rfl, hh⟩ ?_ ?_
    · clear hh
      rintro n E hn3 ⟨h, s4, s5, s6, s7, s8, s9, s10, s11, s12, s13, s14, s15, rfl, hh⟩
      walk_at "tgt"
      refine seq_cut (fun E => E = [.fz (.scr ns), .own h, .fz (.int many), .fz (.tup (ls.map lD)), .fz (.int (n : Nat)), s5, s6, s7, s8, s9, s10, s11, .fz (.tup (ls.map lD)), .fz (.int many), s14, s15]) ?_ ?_
      · walk_at "go"
      rintro E rfl
      refine seq_cut (fun E => ∃ h ds s14, E = [.fz (.scr ns), .own h, .fz (.int many), .fz (.tup (ls.map lD)), .fz (.int (n : Nat)), s5, s6, s7, s8, s9, s10, s11, .fz (.tup ds), .fz (.int many), s14, s15] ∧ HandD h ∧ (∀ d, d ∈ ds → Pl d) ∧ ds.length ≤ 64) ?_ ?_
      · walk_at "go"
        refine call_by (draw_ok hh (by omega) (by omega)) ?_
        rintro d bs ⟨r, h1, rfl, rfl, hh1, r0, r1⟩
        have hr := itR_int (j := 1 + r) (by omega) (by omega)
        walk_at "go hr"
        refine for_rng (fun i E => ∃ h ds s14, E = [.fz (.scr ns), .own h, .fz (.int many), .fz (.tup (ls.map lD)), .fz (.int (n : Nat)), s5, s6, s7, s8, s9, s10, s11, .fz (.tup ds), .fz (.int many), s14, s15] ∧ HandD h ∧ (∀ d, d ∈ ds → Pl d) ∧ ds.length ≤ 62 + i) ⟨h1, ls.map lD, _, rfl, hh1, pl_mem pls, by rw [List.length_map]; omega⟩ ?_ ?_
        · clear hh hh1
          rintro i E hi ⟨h, ds, s14, rfl, hh, pds, hds⟩
          have hs : ds.length ≤ sizeLine := sl16 (by omega)
          walk_at "go"
          · refine call_by (spoilt_ok hh m0 m1 pds (by omega) (by omega)) ?_
            rintro d bs ⟨ds', h', rfl, rfl, hh', hl', pds'⟩
            walk_at "go"
            exact ⟨_, _, _, rfl, hh', pds', by omega⟩
          · exact ⟨_, _, _, rfl, hh, pds, by omega⟩
        · rintro E ⟨h, ds, s14, rfl, hh, pds, hds⟩
          walk_at "go"
          exact ⟨_, _, _, rfl, hh, pds, by omega⟩
      clear hh
      rintro E ⟨h, ds, s14, rfl, hh, pds, hds⟩
      refine seq_cut (fun E => ∃ h ot, E = [.fz (.scr ns), .own h, .fz (.int many), .fz (.tup (ls.map lD)), .fz (.int (n : Nat)), s5, s6, s7, s8, s9, s10, s11, .fz (.tup ds), .fz ot, s14, s15] ∧ HandD h ∧ Pl ot) ?_ ?_
      · walk_at "go"
        refine call_by (draw_ok hh (by omega) (by omega)) ?_
        rintro d bs ⟨r, h1, rfl, rfl, hh1, r0, r1⟩
        walk_at "go p19 l1"
        · refine call_by (deep_ok 0) ?_
          rintro d1 bs ⟨pd1, rfl⟩
          walk_at "go l13"
          refine call_by (some_ok hh1 (by simp) (by simp)) ?_
          rintro d bs ⟨h2, hd, rfl, hh2⟩
          have pd : Pl d := by
            simp only [List.mem_cons, List.not_mem_nil, or_false] at hd
            rcases hd with rfl | rfl | rfl | rfl | rfl | rfl | rfl | rfl | rfl | rfl | rfl | rfl | rfl
            all_goals first | exact .int _ | exact .bl _ | exact .non | exact .str _ | exact pl_one (.int _) | exact pl_onel (.int _) | assumption
          walk_at "go"
          exact ⟨_, _, rfl, hh2, pd⟩
        · exact ⟨_, _, rfl, hh1, .int _⟩
      clear hh
      rintro E ⟨h, ot, rfl, hh, pot⟩
      refine seq_cut (fun E => ∃ h bd, E = [.fz (.scr ns), .own h, .fz (.int many), .fz (.tup (ls.map lD)), .fz (.int (n : Nat)), s5, s6, s7, s8, s9, s10, s11, .fz bd, .fz ot, s14, s15] ∧ HandD h ∧ Pl bd) ?_ ?_
      · have pbd : Pl (.tup ds) := .tup ds (by omega) pds
        have hs : ds.length + ds.length ≤ sizeLine := sl16 (by omega)
        walk_at "go"
        refine call_by (draw_ok hh (by omega) (by omega)) ?_
        rintro d bs ⟨r, h1, rfl, rfl, hh1, r0, r1⟩
        walk_at "go e_list"
        · refine call_by (deep_ok 0) ?_
          rintro d1 bs ⟨pd1, rfl⟩
          walk_at "go"
          refine call_by (deep_ok 1) ?_
          rintro d2 bs ⟨pd2, rfl⟩
          walk_at "go hs l8"
          refine call_by (some_ok hh1 (by simp) (by simp)) ?_
          rintro d bs ⟨h2, hd, rfl, hh2⟩
          have pd : Pl d := by
            simp only [List.mem_cons, List.not_mem_nil, or_false] at hd
            rcases hd with rfl | rfl | rfl | rfl | rfl | rfl | rfl | rfl
            · exact .lst ds (by omega) pds
            · exact .non
            · exact .int _
            · exact .str _
            · exact .emp
            · exact pd1
            · exact pd2
            · exact .tup _ (by rw [List.length_append]; omega) fun d hd => by
                rcases List.mem_append.mp hd with hd | hd <;> exact pds d hd
          walk_at "go"
          exact ⟨_, _, rfl, hh2, pd⟩
        · exact ⟨_, _, rfl, hh1, pbd⟩
      clear hh
      rintro E ⟨h, bd, rfl, hh, pbd⟩
      have e1 := e_made pot pbd
      have e2 := e_part pot pbd
      have e3 : sem__law_is 8 [.fz (partD ot bd), .fz (partD ot bd)] = .val (.bl true) [.no, .no] := is_partD (n := 7) ot bd
      walk_at "go e1 e2 e3"
      exact ⟨_, _, _, _, _, _, _, _, _, _, _, _, _, rfl, hh⟩
    · rintro E ⟨h, s4, s5, s6, s7, s8, s9, s10, s11, s12, s13, s14, s15, rfl, hh⟩
      walk_at "go"
      exact ⟨_, _, _, _, _, _, _, _, _, _, _, _, _, rfl, hh⟩
  clear hh
  rintro E ⟨h, s4, s5, s6, s7, s8, s9, s10, s11, s12, s13, s14, s15, rfl, hh⟩
  refine seq_cut (fun E => ∃ h s4 s5 s6 s7 s8 s9 s10 s11 s12 s13 s14 s15, E = [.fz (.scr ns), .own h, .fz (.int many), .fz (.tup (ls.map lD)), s4, s5, s6, s7, s8, s9, s10, s11, s12, s13, s14, s15] ∧ HandD h) ?_ ?_
  · walk_at "go"
    refine call_by (draw_ok hh (by omega) (by omega)) ?_
    rintro d bs ⟨r, h1, rfl, rfl, hh1, r0, r1⟩
    walk_at "go l7"
    refine call_by (some_ok hh1 (by simp) (by simp)) ?_
    rintro d bs ⟨h2, hd, rfl, hh2⟩
    obtain ⟨z, rfl, z1⟩ : ∃ z : Nat, d = .int (z : Nat) ∧ z ≤ 60 := by
      obtain ⟨z, rfl, z0, z1⟩ : ∃ b : Int, d = .int b ∧ 0 ≤ b ∧ b ≤ 60 := by
        simp only [List.mem_cons, List.not_mem_nil, or_false] at hd
        rcases hd with rfl | rfl | rfl | rfl | rfl | rfl | rfl <;> exact ⟨_, rfl, by omega, by omega⟩
      obtain ⟨k, rfl⟩ := Int.eq_ofNat_of_zero_le z0
      exact ⟨k, rfl, by omega⟩
    have e1 := e_lines z1
    walk_at "go e1"
    exact ⟨_, _, _, _, _, _, _, _, _, _, _, _, _, rfl, hh2⟩
  clear hh
  rintro E ⟨h, s4, s5, s6, s7, s8, s9, s10, s11, s12, s13, s14, s15, rfl, hh⟩
  refine seq_cut (fun E => ∃ h sh, E = [.fz (.scr ns), .own h, .fz (.int many), .fz (.tup (ls.map lD)), s4, .fz (.tup []), .fz (.int sh), s7, s8, s9, s10, s11, s12, s13, s14, s15] ∧ HandD h ∧ 1 ≤ sh ∧ sh ≤ 4) ?_ ?_
  · walk_at "go l0 l3"
    refine call_by (some_ok hh (by simp) (by simp)) ?_
    rintro d bs ⟨h2, hd, rfl, hh2⟩
    obtain ⟨z, rfl, z0, z1⟩ : ∃ b : Int, d = .int b ∧ 1 ≤ b ∧ b ≤ 4 := by
      simp only [List.mem_cons, List.not_mem_nil, or_false] at hd
      rcases hd with rfl | rfl | rfl <;> exact ⟨_, rfl, by omega, by omega⟩
    walk_at "go l2"
    exact ⟨_, _, rfl, hh2, z0, z1⟩
  clear hh
  rintro E ⟨h, sh, rfl, hh, sh0, sh1⟩
  refine seq_cut (fun E => ∃ (h : D) (T : List P2) (s7 s13 : Sl), E = [.fz (.scr ns), .own h, .fz (.int many), .fz (.tup (ls.map lD)), s4, .fz (.tup (T.map pD)), .fz (.int sh), s7, s8, s9, s10, s11, s12, s13, s14, s15] ∧ HandD h ∧ TiesOk many T) ?_ ?_
  · have hr := itR_int (j := many) (by omega) (by omega)
    walk_at "go hr"
    refine for_rng (fun n E => ∃ (h : D) (T : List P2) (s7 s13 : Sl), E = [.fz (.scr ns), .own h, .fz (.int many), .fz (.tup (ls.map lD)), s4, .fz (.tup (T.map pD)), .fz (.int sh), s7, s8, s9, s10, s11, s12, s13, s14, s15] ∧ HandD h ∧ (∀ p, p ∈ T → 0 ≤ p.1 ∧ p.1 < p.2 ∧ p.2 < many ∧ p.1 < n) ∧ T.Pairwise ltP ∧ T.length ≤ 8 * n) ?_ ?_ ?_
    · exact ⟨h, [], _, _, rfl, hh, fun p hp => by simp at hp, List.Pairwise.nil, Nat.zero_le _⟩
    · clear hh
      rintro n E hn8 ⟨h, T, s7, s13, rfl, hh, ok, up, hT⟩
      have hr2 := itR_two (i := (n : Int) + 1) (j := many) (by omega) (by omega) (by omega) (by omega)
      walk_at "go hr2"
      refine lc_rng (sl16 (by omega)) (fun i acc E => ∃ (h : D) (R : List P2), E = [.fz (.scr ns), .own h, .fz (.int many), .fz (.tup (ls.map lD)), s4, .fz (.tup (T.map pD)), .fz (.int sh), .fz (.int (n : Nat)), s8, s9, s10, s11, s12, .no, s14, s15] ∧ HandD h ∧ acc = R.map pD ∧ (∀ p, p ∈ R → p.1 = n ∧ (n : Int) < p.2 ∧ p.2 < (n : Int) + 1 + i) ∧ R.Pairwise ltP ∧ R.length ≤ i) ?_ ?_ ?_
      · exact ⟨h, [], rfl, hh, rfl, fun p hp => by simp at hp, List.Pairwise.nil, Nat.le_refl _⟩
      · rintro i acc E hi ⟨h, R, rfl, hh, rfl, rk, ru, rl⟩
        walk_at "go"
        refine call_by (draw_ok hh (by omega) (by omega)) ?_
        rintro d bs ⟨r, h1, rfl, rfl, hh1, r0, r1⟩
        walk_at "go l2"
        · refine ⟨h1, R ++ [((n : Int), (n : Int) + 1 + i)], rfl, hh1, by rw [List.map_append]; rfl, fun p hp => ?_, List.pairwise_append.mpr ⟨ru, List.pairwise_singleton .., fun a ha b hb => ?_⟩, by simp; omega⟩
          · rcases List.mem_append.mp hp with hp | hp
            · have := rk p hp; omega
            · cases List.mem_singleton.mp hp; exact ⟨rfl, (by omega : (n : Int) < (n : Int) + 1 + i), (by omega : (n : Int) + 1 + i < (n : Int) + 1 + ((i + 1 : Nat) : Int))⟩
          · cases List.mem_singleton.mp hb
            have := rk a ha
            exact ltP_snd (by simp only; omega) (by simp only; omega)
        · exact ⟨h1, R, rfl, hh1, rfl, fun p hp => by have := rk p hp; omega, ru, by omega⟩
      clear hh
      rintro acc E2 ⟨h, R, rfl, hh, rfl, rk, ru, rl⟩
      have hb : (R.map pD).length ≤ sizeLine := by rw [List.length_map]; exact sl16 (by omega)
      have hb2 : (T.map pD).length + (R.map pD).length ≤ sizeLine := by rw [List.length_map, List.length_map]; exact sl16 (by omega)
      walk_at "go hb hb2"
      refine ⟨h, T ++ R, _, _, by rw [List.map_append], hh, fun p hp => ?_, List.pairwise_append.mpr ⟨up, ru, fun a ha b hb => ?_⟩, by rw [List.length_append]; omega⟩
      · rcases List.mem_append.mp hp with hp | hp
        · have := ok p hp; omega
        · have := rk p hp; omega
      · have h1 := (ok a ha).2.2.2
        have h2 := (rk b hb).1
        exact ltP_fst (by omega)
    · rintro E ⟨h, T, s7, s13, rfl, hh, ok, up, hT⟩
      walk_at "go"
      exact ⟨_, _, _, _, rfl, hh, fun p hp => by have := ok p hp; omega, up, by omega⟩
  clear hh
  rintro E ⟨h, T, s7, s13, rfl, hh, to⟩
  have hT := to.le
  have hTs : T.length ≤ sizeLine := sl16 (by omega)
  refine seq_cut (fun E => ∃ rm, E = [.fz (.scr ns), .own h, .fz (.int many), .fz (.tup (ls.map lD)), s4, .fz (.tup (T.map pD)), .fz (.int sh), s7, .fz (.int rm), s9, s10, s11, s12, s13, s14, s15] ∧ 0 ≤ rm ∧ rm ≤ 30) ?_ ?_
  · walk_at "go List.length_map hTs"
    have hx : (1 : Int) ≤ (if (T.length : Int) > 1 then (T.length : Int) else 1) := by split <;> omega
    exact ⟨_, rfl, Int.ediv_nonneg (by omega) (by omega), Int.ediv_le_self _ (by omega)⟩
  rintro E ⟨rm, rfl, rm0, rm1⟩
  walk_at "go l8"
  refine call_by (some_ok hh (by simp) (by simp)) ?_
  rintro d bs ⟨h2, hd, rfl, hh2⟩
  obtain ⟨z, rfl, z1⟩ : ∃ z : Nat, d = .int (z : Nat) ∧ z ≤ 60 := by
    obtain ⟨z, rfl, z0, z1⟩ : ∃ b : Int, d = .int b ∧ 0 ≤ b ∧ b ≤ 60 := by
      simp only [List.mem_cons, List.not_mem_nil, or_false] at hd
      rcases hd with rfl | rfl | rfl | rfl | rfl | rfl | rfl | rfl
      all_goals first | exact ⟨_, rfl, by omega, by omega⟩ | (refine ⟨_, rfl, ?_, ?_⟩ <;> split <;> omega)
    obtain ⟨k, rfl⟩ := Int.eq_ofNat_of_zero_le z0
    exact ⟨k, rfl, by omega⟩
  have e1 := e_lnet to m0 m1 z1
  walk_at "go e1"
theorem main (ns : List Int) (hn : ns.length ≤ 63) : ∃ bs, sem_law [.fz (.scr ns)] = .val (.bl true) bs := by
  have h := e_law hn
  revert h
  cases sem_law [.fz (.scr ns)] with
  | val d bs => rintro rfl; exact ⟨bs, rfl⟩
  | _ => exact fun h => h.elim

end Law

namespace Law
open PySem PySem.Spec PyProof.Rows L2 FL
theorem law_sp {K : PySem.W.Frag} {a : Adr} {H : Hp} {p : Addr} {ns : List Int} (hO : Only H) (hS : SqL K H p (ns.map V.int)) (h : ∃ bs, sem_law [.fz (.scr ns)] = .val (.bl true) bs) : spF (gm K a) 1 sem_law [.ref p] H (fun v _ => v = .bl true) fun _ _ _ => False := by
  obtain ⟨bs, e⟩ := h
  refine ⟨rfl, fun _ => 0, fun _ => none, [.fz (.scr ns)], H, ⟨Same.refl _, (fun _ _ z => nomatch z), (fun _ _ z => nomatch z), rfl, fun i d z => ?_, fun _ => 0, fun i s d z c => ?_, fun i k d z => ?_, fun i j s t d e e1 c1 _ _ _ => ?_⟩, ?_⟩
  · cases i with
    | zero => cases z; exact ⟨_, rfl, p, rfl, hS⟩
    | succ i => simp at z
  · cases i with
    | zero => cases z; cases c
    | succ i => simp at z
  · cases i with
    | zero => cases z
    | succ i => simp at z
  · cases i with
    | zero => cases e1; cases c1
    | succ i => simp at e1
  · rw [e]; exact fun v F' H' _ _ r => r
theorem all_mk {K : PySem.W.Frag} {h : Heap} {mg : Str → Option Value} (X : K.In h) (G : h.Ns mainGlobals mg)
    {c_TalkError c_BadSchedule c_TooMany c_NoNumber c_NoNet c_NoLetters c_Schedule a_is_integer a_is_between a_is_sized a_is_lot a_BadSchedule___init__ a_TooMany___init__ a_is_letter a_first_wrong a_Schedule___init__ a_Schedule___eq__ a_turns_line a_both_line a_are_ties a_net_schedule a_without a__law_hand a__law_draw a__law_some a__law_is a__law_is_number a__law_deep a__law_letters a__law_is_letter a__law_part a__law_spoilt a__law_full a__law_made a__law_equals a__law_lines a__law_net a_law : Addr}
    {od_is_integer an_is_integer : Option Addr} {sl_is_integer : Array (Option Value)} {oc_is_integer kV_is_integer dc_is_integer pm_is_integer cd_is_integer ct_is_integer : Value}
    {od_is_between an_is_between : Option Addr} {sl_is_between : Array (Option Value)} {oc_is_between kV_is_between dc_is_between pm_is_between cd_is_between ct_is_between : Value}
    {od_is_sized an_is_sized : Option Addr} {sl_is_sized : Array (Option Value)} {oc_is_sized kV_is_sized dc_is_sized pm_is_sized cd_is_sized ct_is_sized : Value}
    {od_is_lot an_is_lot : Option Addr} {sl_is_lot : Array (Option Value)} {oc_is_lot kV_is_lot dc_is_lot pm_is_lot cd_is_lot ct_is_lot : Value}
    {od_BadSchedule___init__ an_BadSchedule___init__ : Option Addr} {sl_BadSchedule___init__ : Array (Option Value)} {oc_BadSchedule___init__ kV_BadSchedule___init__ dc_BadSchedule___init__ pm_BadSchedule___init__ cd_BadSchedule___init__ ct_BadSchedule___init__ : Value}
    {od_TooMany___init__ an_TooMany___init__ : Option Addr} {sl_TooMany___init__ : Array (Option Value)} {oc_TooMany___init__ kV_TooMany___init__ dc_TooMany___init__ pm_TooMany___init__ cd_TooMany___init__ ct_TooMany___init__ : Value}
    {od_is_letter an_is_letter : Option Addr} {sl_is_letter : Array (Option Value)} {oc_is_letter kV_is_letter dc_is_letter pm_is_letter cd_is_letter ct_is_letter : Value}
    {od_first_wrong an_first_wrong : Option Addr} {sl_first_wrong : Array (Option Value)} {oc_first_wrong kV_first_wrong dc_first_wrong pm_first_wrong cd_first_wrong ct_first_wrong : Value}
    {od_Schedule___init__ an_Schedule___init__ : Option Addr} {sl_Schedule___init__ : Array (Option Value)} {oc_Schedule___init__ kV_Schedule___init__ dc_Schedule___init__ pm_Schedule___init__ cd_Schedule___init__ ct_Schedule___init__ : Value}
    {od_Schedule___eq__ an_Schedule___eq__ : Option Addr} {sl_Schedule___eq__ : Array (Option Value)} {oc_Schedule___eq__ kV_Schedule___eq__ dc_Schedule___eq__ pm_Schedule___eq__ cd_Schedule___eq__ ct_Schedule___eq__ : Value}
    {od_turns_line an_turns_line : Option Addr} {sl_turns_line : Array (Option Value)} {oc_turns_line kV_turns_line dc_turns_line pm_turns_line cd_turns_line ct_turns_line : Value}
    {od_both_line an_both_line : Option Addr} {sl_both_line : Array (Option Value)} {oc_both_line kV_both_line dc_both_line pm_both_line cd_both_line ct_both_line : Value}
    {od_are_ties an_are_ties : Option Addr} {sl_are_ties : Array (Option Value)} {oc_are_ties kV_are_ties dc_are_ties pm_are_ties cd_are_ties ct_are_ties : Value}
    {od_net_schedule an_net_schedule : Option Addr} {sl_net_schedule : Array (Option Value)} {oc_net_schedule kV_net_schedule dc_net_schedule pm_net_schedule cd_net_schedule ct_net_schedule : Value}
    {od_without an_without : Option Addr} {sl_without : Array (Option Value)} {oc_without kV_without dc_without pm_without cd_without ct_without : Value}
    {od__law_hand an__law_hand : Option Addr} {sl__law_hand : Array (Option Value)} {oc__law_hand kV__law_hand dc__law_hand pm__law_hand cd__law_hand ct__law_hand : Value}
    {od__law_draw an__law_draw : Option Addr} {sl__law_draw : Array (Option Value)} {oc__law_draw kV__law_draw dc__law_draw pm__law_draw cd__law_draw ct__law_draw : Value}
    {od__law_some an__law_some : Option Addr} {sl__law_some : Array (Option Value)} {oc__law_some kV__law_some dc__law_some pm__law_some cd__law_some ct__law_some : Value}
    {od__law_is an__law_is : Option Addr} {sl__law_is : Array (Option Value)} {oc__law_is kV__law_is dc__law_is pm__law_is cd__law_is ct__law_is : Value}
    {od__law_is_number an__law_is_number : Option Addr} {sl__law_is_number : Array (Option Value)} {oc__law_is_number kV__law_is_number dc__law_is_number pm__law_is_number cd__law_is_number ct__law_is_number : Value}
    {od__law_deep an__law_deep : Option Addr} {sl__law_deep : Array (Option Value)} {oc__law_deep kV__law_deep dc__law_deep pm__law_deep cd__law_deep ct__law_deep : Value}
    {od__law_letters an__law_letters : Option Addr} {sl__law_letters : Array (Option Value)} {oc__law_letters kV__law_letters dc__law_letters pm__law_letters cd__law_letters ct__law_letters : Value}
    {od__law_is_letter an__law_is_letter : Option Addr} {sl__law_is_letter : Array (Option Value)} {oc__law_is_letter kV__law_is_letter dc__law_is_letter pm__law_is_letter cd__law_is_letter ct__law_is_letter : Value}
    {od__law_part an__law_part : Option Addr} {sl__law_part : Array (Option Value)} {oc__law_part kV__law_part dc__law_part pm__law_part cd__law_part ct__law_part : Value}
    {od__law_spoilt an__law_spoilt : Option Addr} {sl__law_spoilt : Array (Option Value)} {oc__law_spoilt kV__law_spoilt dc__law_spoilt pm__law_spoilt cd__law_spoilt ct__law_spoilt : Value}
    {od__law_full an__law_full : Option Addr} {sl__law_full : Array (Option Value)} {oc__law_full kV__law_full dc__law_full pm__law_full cd__law_full ct__law_full : Value}
    {od__law_made an__law_made : Option Addr} {sl__law_made : Array (Option Value)} {oc__law_made kV__law_made dc__law_made pm__law_made cd__law_made ct__law_made : Value}
    {od__law_equals an__law_equals : Option Addr} {sl__law_equals : Array (Option Value)} {oc__law_equals kV__law_equals dc__law_equals pm__law_equals cd__law_equals ct__law_equals : Value}
    {od__law_lines an__law_lines : Option Addr} {sl__law_lines : Array (Option Value)} {oc__law_lines kV__law_lines dc__law_lines pm__law_lines cd__law_lines ct__law_lines : Value}
    {od__law_net an__law_net : Option Addr} {sl__law_net : Array (Option Value)} {oc__law_net kV__law_net dc__law_net pm__law_net cd__law_net ct__law_net : Value}
    {od_law an_law : Option Addr} {sl_law : Array (Option Value)} {oc_law kV_law dc_law pm_law cd_law ct_law : Value}
    {t_LEAST_HOUSES t_MOST_HOUSES t_MOST_LETTERS t_MOST_BEAT : Tok}
    {nm_BadSchedule q_BadSchedule : Str} {N_BadSchedule : Addr} {bs_BadSchedule : List Value} {sn_BadSchedule : List Str} {sub_BadSchedule : List Value} {ab_BadSchedule : Bool} {col_BadSchedule : Option Bool} {dd_BadSchedule : Option Addr} {k0_BadSchedule k1_BadSchedule k2_BadSchedule k3_BadSchedule k5_BadSchedule : Option Value}
    {nm_TooMany q_TooMany : Str} {N_TooMany : Addr} {bs_TooMany : List Value} {sn_TooMany : List Str} {sub_TooMany : List Value} {ab_TooMany : Bool} {col_TooMany : Option Bool} {dd_TooMany : Option Addr} {k0_TooMany k1_TooMany k2_TooMany k3_TooMany k5_TooMany : Option Value}
    (m_TalkError : PySem.W.nsIn K mainGlobals "TalkError" = some (some (.ref c_TalkError)))
    (m_BadSchedule : PySem.W.nsIn K mainGlobals "BadSchedule" = some (some (.ref c_BadSchedule)))
    (m_TooMany : PySem.W.nsIn K mainGlobals "TooMany" = some (some (.ref c_TooMany)))
    (m_NoNumber : PySem.W.nsIn K mainGlobals "NoNumber" = some (some (.ref c_NoNumber)))
    (m_NoNet : PySem.W.nsIn K mainGlobals "NoNet" = some (some (.ref c_NoNet)))
    (m_NoLetters : PySem.W.nsIn K mainGlobals "NoLetters" = some (some (.ref c_NoLetters)))
    (m_Schedule : PySem.W.nsIn K mainGlobals "Schedule" = some (some (.ref c_Schedule)))
    (n_is_integer : PySem.W.nsIn K mainGlobals "is_integer" = some (some (.ref a_is_integer)))
    (l_is_integer : K.lookup a_is_integer = some ⟨oc_is_integer, od_is_integer, .func (PySem.W.fnOf "is_integer" "is_integer" (defArgs s_is_integer) (defBody s_is_integer) (defScope s_is_integer) .none kV_is_integer dc_is_integer pm_is_integer an_is_integer cd_is_integer ct_is_integer), sl_is_integer⟩)
    (e_is_integer : PySem.W.codeIn K cd_is_integer "is_integer" = true)
    (kk_is_integer : PySem.W.keepIn K (.ref a_is_integer) = true)
    (n_is_between : PySem.W.nsIn K mainGlobals "is_between" = some (some (.ref a_is_between)))
    (l_is_between : K.lookup a_is_between = some ⟨oc_is_between, od_is_between, .func (PySem.W.fnOf "is_between" "is_between" (defArgs s_is_between) (defBody s_is_between) (defScope s_is_between) .none kV_is_between dc_is_between pm_is_between an_is_between cd_is_between ct_is_between), sl_is_between⟩)
    (e_is_between : PySem.W.codeIn K cd_is_between "is_between" = true)
    (kk_is_between : PySem.W.keepIn K (.ref a_is_between) = true)
    (n_is_sized : PySem.W.nsIn K mainGlobals "is_sized" = some (some (.ref a_is_sized)))
    (l_is_sized : K.lookup a_is_sized = some ⟨oc_is_sized, od_is_sized, .func (PySem.W.fnOf "is_sized" "is_sized" (defArgs s_is_sized) (defBody s_is_sized) (defScope s_is_sized) .none kV_is_sized dc_is_sized pm_is_sized an_is_sized cd_is_sized ct_is_sized), sl_is_sized⟩)
    (e_is_sized : PySem.W.codeIn K cd_is_sized "is_sized" = true)
    (kk_is_sized : PySem.W.keepIn K (.ref a_is_sized) = true)
    (n_is_lot : PySem.W.nsIn K mainGlobals "is_lot" = some (some (.ref a_is_lot)))
    (l_is_lot : K.lookup a_is_lot = some ⟨oc_is_lot, od_is_lot, .func (PySem.W.fnOf "is_lot" "is_lot" (defArgs s_is_lot) (defBody s_is_lot) (defScope s_is_lot) .none kV_is_lot dc_is_lot pm_is_lot an_is_lot cd_is_lot ct_is_lot), sl_is_lot⟩)
    (e_is_lot : PySem.W.codeIn K cd_is_lot "is_lot" = true)
    (kk_is_lot : PySem.W.keepIn K (.ref a_is_lot) = true)
    (n_BadSchedule___init__ : PySem.W.findIn K (.ref c_BadSchedule) "__init__" = some (some (.ref a_BadSchedule___init__)))
    (l_BadSchedule___init__ : K.lookup a_BadSchedule___init__ = some ⟨oc_BadSchedule___init__, od_BadSchedule___init__, .func (PySem.W.fnOf "__init__" "BadSchedule.__init__" (defArgs s_BadSchedule___init__) (defBody s_BadSchedule___init__) (defScope s_BadSchedule___init__) .none kV_BadSchedule___init__ dc_BadSchedule___init__ pm_BadSchedule___init__ an_BadSchedule___init__ cd_BadSchedule___init__ ct_BadSchedule___init__), sl_BadSchedule___init__⟩)
    (e_BadSchedule___init__ : PySem.W.codeIn K cd_BadSchedule___init__ "BadSchedule.__init__" = true)
    (kk_BadSchedule___init__ : PySem.W.keepIn K (.ref a_BadSchedule___init__) = true)
    (n_TooMany___init__ : PySem.W.findIn K (.ref c_TooMany) "__init__" = some (some (.ref a_TooMany___init__)))
    (l_TooMany___init__ : K.lookup a_TooMany___init__ = some ⟨oc_TooMany___init__, od_TooMany___init__, .func (PySem.W.fnOf "__init__" "TooMany.__init__" (defArgs s_TooMany___init__) (defBody s_TooMany___init__) (defScope s_TooMany___init__) .none kV_TooMany___init__ dc_TooMany___init__ pm_TooMany___init__ an_TooMany___init__ cd_TooMany___init__ ct_TooMany___init__), sl_TooMany___init__⟩)
    (e_TooMany___init__ : PySem.W.codeIn K cd_TooMany___init__ "TooMany.__init__" = true)
    (kk_TooMany___init__ : PySem.W.keepIn K (.ref a_TooMany___init__) = true)
    (n_is_letter : PySem.W.nsIn K mainGlobals "is_letter" = some (some (.ref a_is_letter)))
    (l_is_letter : K.lookup a_is_letter = some ⟨oc_is_letter, od_is_letter, .func (PySem.W.fnOf "is_letter" "is_letter" (defArgs s_is_letter) (defBody s_is_letter) (defScope s_is_letter) .none kV_is_letter dc_is_letter pm_is_letter an_is_letter cd_is_letter ct_is_letter), sl_is_letter⟩)
    (e_is_letter : PySem.W.codeIn K cd_is_letter "is_letter" = true)
    (kk_is_letter : PySem.W.keepIn K (.ref a_is_letter) = true)
    (n_first_wrong : PySem.W.nsIn K mainGlobals "first_wrong" = some (some (.ref a_first_wrong)))
    (l_first_wrong : K.lookup a_first_wrong = some ⟨oc_first_wrong, od_first_wrong, .func (PySem.W.fnOf "first_wrong" "first_wrong" (defArgs s_first_wrong) (defBody s_first_wrong) (defScope s_first_wrong) .none kV_first_wrong dc_first_wrong pm_first_wrong an_first_wrong cd_first_wrong ct_first_wrong), sl_first_wrong⟩)
    (e_first_wrong : PySem.W.codeIn K cd_first_wrong "first_wrong" = true)
    (kk_first_wrong : PySem.W.keepIn K (.ref a_first_wrong) = true)
    (n_Schedule___init__ : PySem.W.findIn K (.ref c_Schedule) "__init__" = some (some (.ref a_Schedule___init__)))
    (l_Schedule___init__ : K.lookup a_Schedule___init__ = some ⟨oc_Schedule___init__, od_Schedule___init__, .func (PySem.W.fnOf "__init__" "Schedule.__init__" (defArgs s_Schedule___init__) (defBody s_Schedule___init__) (defScope s_Schedule___init__) .none kV_Schedule___init__ dc_Schedule___init__ pm_Schedule___init__ an_Schedule___init__ cd_Schedule___init__ ct_Schedule___init__), sl_Schedule___init__⟩)
    (e_Schedule___init__ : PySem.W.codeIn K cd_Schedule___init__ "Schedule.__init__" = true)
    (kk_Schedule___init__ : PySem.W.keepIn K (.ref a_Schedule___init__) = true)
    (n_Schedule___eq__ : PySem.W.findIn K (.ref c_Schedule) "__eq__" = some (some (.ref a_Schedule___eq__)))
    (l_Schedule___eq__ : K.lookup a_Schedule___eq__ = some ⟨oc_Schedule___eq__, od_Schedule___eq__, .func (PySem.W.fnOf "__eq__" "Schedule.__eq__" (defArgs s_Schedule___eq__) (defBody s_Schedule___eq__) (defScope s_Schedule___eq__) .none kV_Schedule___eq__ dc_Schedule___eq__ pm_Schedule___eq__ an_Schedule___eq__ cd_Schedule___eq__ ct_Schedule___eq__), sl_Schedule___eq__⟩)
    (e_Schedule___eq__ : PySem.W.codeIn K cd_Schedule___eq__ "Schedule.__eq__" = true)
    (kk_Schedule___eq__ : PySem.W.keepIn K (.ref a_Schedule___eq__) = true)
    (n_turns_line : PySem.W.nsIn K mainGlobals "turns_line" = some (some (.ref a_turns_line)))
    (l_turns_line : K.lookup a_turns_line = some ⟨oc_turns_line, od_turns_line, .func (PySem.W.fnOf "turns_line" "turns_line" (defArgs s_turns_line) (defBody s_turns_line) (defScope s_turns_line) .none kV_turns_line dc_turns_line pm_turns_line an_turns_line cd_turns_line ct_turns_line), sl_turns_line⟩)
    (e_turns_line : PySem.W.codeIn K cd_turns_line "turns_line" = true)
    (kk_turns_line : PySem.W.keepIn K (.ref a_turns_line) = true)
    (n_both_line : PySem.W.nsIn K mainGlobals "both_line" = some (some (.ref a_both_line)))
    (l_both_line : K.lookup a_both_line = some ⟨oc_both_line, od_both_line, .func (PySem.W.fnOf "both_line" "both_line" (defArgs s_both_line) (defBody s_both_line) (defScope s_both_line) .none kV_both_line dc_both_line pm_both_line an_both_line cd_both_line ct_both_line), sl_both_line⟩)
    (e_both_line : PySem.W.codeIn K cd_both_line "both_line" = true)
    (kk_both_line : PySem.W.keepIn K (.ref a_both_line) = true)
    (n_are_ties : PySem.W.nsIn K mainGlobals "are_ties" = some (some (.ref a_are_ties)))
    (l_are_ties : K.lookup a_are_ties = some ⟨oc_are_ties, od_are_ties, .func (PySem.W.fnOf "are_ties" "are_ties" (defArgs s_are_ties) (defBody s_are_ties) (defScope s_are_ties) .none kV_are_ties dc_are_ties pm_are_ties an_are_ties cd_are_ties ct_are_ties), sl_are_ties⟩)
    (e_are_ties : PySem.W.codeIn K cd_are_ties "are_ties" = true)
    (kk_are_ties : PySem.W.keepIn K (.ref a_are_ties) = true)
    (n_net_schedule : PySem.W.nsIn K mainGlobals "net_schedule" = some (some (.ref a_net_schedule)))
    (l_net_schedule : K.lookup a_net_schedule = some ⟨oc_net_schedule, od_net_schedule, .func (PySem.W.fnOf "net_schedule" "net_schedule" (defArgs s_net_schedule) (defBody s_net_schedule) (defScope s_net_schedule) .none kV_net_schedule dc_net_schedule pm_net_schedule an_net_schedule cd_net_schedule ct_net_schedule), sl_net_schedule⟩)
    (e_net_schedule : PySem.W.codeIn K cd_net_schedule "net_schedule" = true)
    (kk_net_schedule : PySem.W.keepIn K (.ref a_net_schedule) = true)
    (n_without : PySem.W.nsIn K mainGlobals "without" = some (some (.ref a_without)))
    (l_without : K.lookup a_without = some ⟨oc_without, od_without, .func (PySem.W.fnOf "without" "without" (defArgs s_without) (defBody s_without) (defScope s_without) .none kV_without dc_without pm_without an_without cd_without ct_without), sl_without⟩)
    (e_without : PySem.W.codeIn K cd_without "without" = true)
    (kk_without : PySem.W.keepIn K (.ref a_without) = true)
    (n__law_hand : PySem.W.nsIn K mainGlobals "_law_hand" = some (some (.ref a__law_hand)))
    (l__law_hand : K.lookup a__law_hand = some ⟨oc__law_hand, od__law_hand, .func (PySem.W.fnOf "_law_hand" "_law_hand" (defArgs s__law_hand) (defBody s__law_hand) (defScope s__law_hand) .none kV__law_hand dc__law_hand pm__law_hand an__law_hand cd__law_hand ct__law_hand), sl__law_hand⟩)
    (e__law_hand : PySem.W.codeIn K cd__law_hand "_law_hand" = true)
    (kk__law_hand : PySem.W.keepIn K (.ref a__law_hand) = true)
    (n__law_draw : PySem.W.nsIn K mainGlobals "_law_draw" = some (some (.ref a__law_draw)))
    (l__law_draw : K.lookup a__law_draw = some ⟨oc__law_draw, od__law_draw, .func (PySem.W.fnOf "_law_draw" "_law_draw" (defArgs s__law_draw) (defBody s__law_draw) (defScope s__law_draw) .none kV__law_draw dc__law_draw pm__law_draw an__law_draw cd__law_draw ct__law_draw), sl__law_draw⟩)
    (e__law_draw : PySem.W.codeIn K cd__law_draw "_law_draw" = true)
    (kk__law_draw : PySem.W.keepIn K (.ref a__law_draw) = true)
    (n__law_some : PySem.W.nsIn K mainGlobals "_law_some" = some (some (.ref a__law_some)))
    (l__law_some : K.lookup a__law_some = some ⟨oc__law_some, od__law_some, .func (PySem.W.fnOf "_law_some" "_law_some" (defArgs s__law_some) (defBody s__law_some) (defScope s__law_some) .none kV__law_some dc__law_some pm__law_some an__law_some cd__law_some ct__law_some), sl__law_some⟩)
    (e__law_some : PySem.W.codeIn K cd__law_some "_law_some" = true)
    (kk__law_some : PySem.W.keepIn K (.ref a__law_some) = true)
    (n__law_is : PySem.W.nsIn K mainGlobals "_law_is" = some (some (.ref a__law_is)))
    (l__law_is : K.lookup a__law_is = some ⟨oc__law_is, od__law_is, .func (PySem.W.fnOf "_law_is" "_law_is" (defArgs s__law_is) (defBody s__law_is) (defScope s__law_is) .none kV__law_is dc__law_is pm__law_is an__law_is cd__law_is ct__law_is), sl__law_is⟩)
    (e__law_is : PySem.W.codeIn K cd__law_is "_law_is" = true)
    (kk__law_is : PySem.W.keepIn K (.ref a__law_is) = true)
    (n__law_is_number : PySem.W.nsIn K mainGlobals "_law_is_number" = some (some (.ref a__law_is_number)))
    (l__law_is_number : K.lookup a__law_is_number = some ⟨oc__law_is_number, od__law_is_number, .func (PySem.W.fnOf "_law_is_number" "_law_is_number" (defArgs s__law_is_number) (defBody s__law_is_number) (defScope s__law_is_number) .none kV__law_is_number dc__law_is_number pm__law_is_number an__law_is_number cd__law_is_number ct__law_is_number), sl__law_is_number⟩)
    (e__law_is_number : PySem.W.codeIn K cd__law_is_number "_law_is_number" = true)
    (kk__law_is_number : PySem.W.keepIn K (.ref a__law_is_number) = true)
    (n__law_deep : PySem.W.nsIn K mainGlobals "_law_deep" = some (some (.ref a__law_deep)))
    (l__law_deep : K.lookup a__law_deep = some ⟨oc__law_deep, od__law_deep, .func (PySem.W.fnOf "_law_deep" "_law_deep" (defArgs s__law_deep) (defBody s__law_deep) (defScope s__law_deep) .none kV__law_deep dc__law_deep pm__law_deep an__law_deep cd__law_deep ct__law_deep), sl__law_deep⟩)
    (e__law_deep : PySem.W.codeIn K cd__law_deep "_law_deep" = true)
    (kk__law_deep : PySem.W.keepIn K (.ref a__law_deep) = true)
    (n__law_letters : PySem.W.nsIn K mainGlobals "_law_letters" = some (some (.ref a__law_letters)))
    (l__law_letters : K.lookup a__law_letters = some ⟨oc__law_letters, od__law_letters, .func (PySem.W.fnOf "_law_letters" "_law_letters" (defArgs s__law_letters) (defBody s__law_letters) (defScope s__law_letters) .none kV__law_letters dc__law_letters pm__law_letters an__law_letters cd__law_letters ct__law_letters), sl__law_letters⟩)
    (e__law_letters : PySem.W.codeIn K cd__law_letters "_law_letters" = true)
    (kk__law_letters : PySem.W.keepIn K (.ref a__law_letters) = true)
    (n__law_is_letter : PySem.W.nsIn K mainGlobals "_law_is_letter" = some (some (.ref a__law_is_letter)))
    (l__law_is_letter : K.lookup a__law_is_letter = some ⟨oc__law_is_letter, od__law_is_letter, .func (PySem.W.fnOf "_law_is_letter" "_law_is_letter" (defArgs s__law_is_letter) (defBody s__law_is_letter) (defScope s__law_is_letter) .none kV__law_is_letter dc__law_is_letter pm__law_is_letter an__law_is_letter cd__law_is_letter ct__law_is_letter), sl__law_is_letter⟩)
    (e__law_is_letter : PySem.W.codeIn K cd__law_is_letter "_law_is_letter" = true)
    (kk__law_is_letter : PySem.W.keepIn K (.ref a__law_is_letter) = true)
    (n__law_part : PySem.W.nsIn K mainGlobals "_law_part" = some (some (.ref a__law_part)))
    (l__law_part : K.lookup a__law_part = some ⟨oc__law_part, od__law_part, .func (PySem.W.fnOf "_law_part" "_law_part" (defArgs s__law_part) (defBody s__law_part) (defScope s__law_part) .none kV__law_part dc__law_part pm__law_part an__law_part cd__law_part ct__law_part), sl__law_part⟩)
    (e__law_part : PySem.W.codeIn K cd__law_part "_law_part" = true)
    (kk__law_part : PySem.W.keepIn K (.ref a__law_part) = true)
    (n__law_spoilt : PySem.W.nsIn K mainGlobals "_law_spoilt" = some (some (.ref a__law_spoilt)))
    (l__law_spoilt : K.lookup a__law_spoilt = some ⟨oc__law_spoilt, od__law_spoilt, .func (PySem.W.fnOf "_law_spoilt" "_law_spoilt" (defArgs s__law_spoilt) (defBody s__law_spoilt) (defScope s__law_spoilt) .none kV__law_spoilt dc__law_spoilt pm__law_spoilt an__law_spoilt cd__law_spoilt ct__law_spoilt), sl__law_spoilt⟩)
    (e__law_spoilt : PySem.W.codeIn K cd__law_spoilt "_law_spoilt" = true)
    (kk__law_spoilt : PySem.W.keepIn K (.ref a__law_spoilt) = true)
    (n__law_full : PySem.W.nsIn K mainGlobals "_law_full" = some (some (.ref a__law_full)))
    (l__law_full : K.lookup a__law_full = some ⟨oc__law_full, od__law_full, .func (PySem.W.fnOf "_law_full" "_law_full" (defArgs s__law_full) (defBody s__law_full) (defScope s__law_full) .none kV__law_full dc__law_full pm__law_full an__law_full cd__law_full ct__law_full), sl__law_full⟩)
    (e__law_full : PySem.W.codeIn K cd__law_full "_law_full" = true)
    (kk__law_full : PySem.W.keepIn K (.ref a__law_full) = true)
    (n__law_made : PySem.W.nsIn K mainGlobals "_law_made" = some (some (.ref a__law_made)))
    (l__law_made : K.lookup a__law_made = some ⟨oc__law_made, od__law_made, .func (PySem.W.fnOf "_law_made" "_law_made" (defArgs s__law_made) (defBody s__law_made) (defScope s__law_made) .none kV__law_made dc__law_made pm__law_made an__law_made cd__law_made ct__law_made), sl__law_made⟩)
    (e__law_made : PySem.W.codeIn K cd__law_made "_law_made" = true)
    (kk__law_made : PySem.W.keepIn K (.ref a__law_made) = true)
    (n__law_equals : PySem.W.nsIn K mainGlobals "_law_equals" = some (some (.ref a__law_equals)))
    (l__law_equals : K.lookup a__law_equals = some ⟨oc__law_equals, od__law_equals, .func (PySem.W.fnOf "_law_equals" "_law_equals" (defArgs s__law_equals) (defBody s__law_equals) (defScope s__law_equals) .none kV__law_equals dc__law_equals pm__law_equals an__law_equals cd__law_equals ct__law_equals), sl__law_equals⟩)
    (e__law_equals : PySem.W.codeIn K cd__law_equals "_law_equals" = true)
    (kk__law_equals : PySem.W.keepIn K (.ref a__law_equals) = true)
    (n__law_lines : PySem.W.nsIn K mainGlobals "_law_lines" = some (some (.ref a__law_lines)))
    (l__law_lines : K.lookup a__law_lines = some ⟨oc__law_lines, od__law_lines, .func (PySem.W.fnOf "_law_lines" "_law_lines" (defArgs s__law_lines) (defBody s__law_lines) (defScope s__law_lines) .none kV__law_lines dc__law_lines pm__law_lines an__law_lines cd__law_lines ct__law_lines), sl__law_lines⟩)
    (e__law_lines : PySem.W.codeIn K cd__law_lines "_law_lines" = true)
    (kk__law_lines : PySem.W.keepIn K (.ref a__law_lines) = true)
    (n__law_net : PySem.W.nsIn K mainGlobals "_law_net" = some (some (.ref a__law_net)))
    (l__law_net : K.lookup a__law_net = some ⟨oc__law_net, od__law_net, .func (PySem.W.fnOf "_law_net" "_law_net" (defArgs s__law_net) (defBody s__law_net) (defScope s__law_net) .none kV__law_net dc__law_net pm__law_net an__law_net cd__law_net ct__law_net), sl__law_net⟩)
    (e__law_net : PySem.W.codeIn K cd__law_net "_law_net" = true)
    (kk__law_net : PySem.W.keepIn K (.ref a__law_net) = true)
    (n_law : PySem.W.nsIn K mainGlobals "law" = some (some (.ref a_law)))
    (l_law : K.lookup a_law = some ⟨oc_law, od_law, .func (PySem.W.fnOf "law" "law" (defArgs s_law) (defBody s_law) (defScope s_law) .none kV_law dc_law pm_law an_law cd_law ct_law), sl_law⟩)
    (e_law : PySem.W.codeIn K cd_law "law" = true)
    (kk_law : PySem.W.keepIn K (.ref a_law) = true)
    (pg_Schedule : PySem.W.plainGet K c_Schedule Str.empty = true)
    (hd_Schedule : PySem.W.hasDictIn K c_Schedule = true)
    (po_Schedule : PySem.W.plainOver K c_Schedule = true)
    (sa_Schedule : PySem.W.findIn K (.ref c_Schedule) "__setattr__" = some (some (.builtin "object.__setattr__")))
    (ca_Schedule : PySem.W.findIn K (.ref c_Schedule) "__class__" = some (some (.builtin "object.__class__")))
    (cm_Schedule : PySem.W.mroIn K c_Schedule (.type "object") = some true)
    (ci_Schedule : PySem.W.isClsIn K c_Schedule = true)
    (cy_Schedule : PySem.W.typeIn K (.ref c_Schedule) = some (.type "type"))
    (mm_Schedule : PySem.W.makesIn K c_Schedule = true)
    (mf_Schedule : PySem.W.isFn K (.ref a_Schedule___init__) = true)
    (mk_Schedule : PySem.W.keepIn K (.ref c_Schedule) = true)
    (ef_Schedule : PySem.W.isFn K (.ref a_Schedule___eq__) = true)
    (na_part_Schedule : PySem.W.findIn K (.ref c_Schedule) "part" = some none)
    (na_most_Schedule : PySem.W.findIn K (.ref c_Schedule) "most" = some none)
    (na_many_Schedule : PySem.W.findIn K (.ref c_Schedule) "many" = some none)
    (na_letters_Schedule : PySem.W.findIn K (.ref c_Schedule) "letters" = some none)
    (sb_TalkError : PySem.W.subIn K (.ref c_TalkError) (.type "BaseException") = some true)
    (ty_TalkError : PySem.W.typeIn K (.ref c_TalkError) = some (.type "type"))
    (hx_TalkError : PySem.W.hasDictIn K c_TalkError = true)
    (gx_TalkError : PySem.W.findIn K (.ref c_TalkError) "__getattribute__" = some (some (.builtin "BaseException.__getattribute__")))
    (gg_TalkError : PySem.W.findIn K (.ref c_TalkError) "__getattr__" = some none)
    (cx_TalkError : PySem.W.findIn K (.ref c_TalkError) "__class__" = some (some (.builtin "object.__class__")))
    (mx_TalkError : PySem.W.mroIn K c_TalkError (.type "object") = some true)
    (cix_TalkError : PySem.W.isClsIn K c_TalkError = true)
    (kx_TalkError : PySem.W.keepIn K (.ref c_TalkError) = true)
    (sb_BadSchedule : PySem.W.subIn K (.ref c_BadSchedule) (.type "BaseException") = some true)
    (ty_BadSchedule : PySem.W.typeIn K (.ref c_BadSchedule) = some (.type "type"))
    (hx_BadSchedule : PySem.W.hasDictIn K c_BadSchedule = true)
    (gx_BadSchedule : PySem.W.findIn K (.ref c_BadSchedule) "__getattribute__" = some (some (.builtin "BaseException.__getattribute__")))
    (gg_BadSchedule : PySem.W.findIn K (.ref c_BadSchedule) "__getattr__" = some none)
    (cx_BadSchedule : PySem.W.findIn K (.ref c_BadSchedule) "__class__" = some (some (.builtin "object.__class__")))
    (mx_BadSchedule : PySem.W.mroIn K c_BadSchedule (.type "object") = some true)
    (cix_BadSchedule : PySem.W.isClsIn K c_BadSchedule = true)
    (kx_BadSchedule : PySem.W.keepIn K (.ref c_BadSchedule) = true)
    (xl_BadSchedule : K.lookup c_BadSchedule = some (excClassObj nm_BadSchedule q_BadSchedule c_BadSchedule N_BadSchedule bs_BadSchedule [.ref c_TalkError, .type "ValueError", .type "Exception", .type "BaseException", .type "object"] true sn_BadSchedule sub_BadSchedule ab_BadSchedule col_BadSchedule dd_BadSchedule k0_BadSchedule k1_BadSchedule k2_BadSchedule k3_BadSchedule k5_BadSchedule "ValueError.__new__"))
    (sxx_BadSchedule : PySem.W.findIn K (.ref c_BadSchedule) "__setattr__" = some (some (.builtin "object.__setattr__")))
    (nf_BadSchedule : PySem.W.findIn K (.ref c_BadSchedule) "part" = some none)
    (ti_BadSchedule : PySem.W.typeIn K (.ref a_BadSchedule___init__) = some (.type "function"))
    (sb_TooMany : PySem.W.subIn K (.ref c_TooMany) (.type "BaseException") = some true)
    (ty_TooMany : PySem.W.typeIn K (.ref c_TooMany) = some (.type "type"))
    (hx_TooMany : PySem.W.hasDictIn K c_TooMany = true)
    (gx_TooMany : PySem.W.findIn K (.ref c_TooMany) "__getattribute__" = some (some (.builtin "BaseException.__getattribute__")))
    (gg_TooMany : PySem.W.findIn K (.ref c_TooMany) "__getattr__" = some none)
    (cx_TooMany : PySem.W.findIn K (.ref c_TooMany) "__class__" = some (some (.builtin "object.__class__")))
    (mx_TooMany : PySem.W.mroIn K c_TooMany (.type "object") = some true)
    (cix_TooMany : PySem.W.isClsIn K c_TooMany = true)
    (kx_TooMany : PySem.W.keepIn K (.ref c_TooMany) = true)
    (xl_TooMany : K.lookup c_TooMany = some (excClassObj nm_TooMany q_TooMany c_TooMany N_TooMany bs_TooMany [.ref c_TalkError, .type "ValueError", .type "Exception", .type "BaseException", .type "object"] true sn_TooMany sub_TooMany ab_TooMany col_TooMany dd_TooMany k0_TooMany k1_TooMany k2_TooMany k3_TooMany k5_TooMany "ValueError.__new__"))
    (sxx_TooMany : PySem.W.findIn K (.ref c_TooMany) "__setattr__" = some (some (.builtin "object.__setattr__")))
    (nf_TooMany : PySem.W.findIn K (.ref c_TooMany) "most" = some none)
    (ti_TooMany : PySem.W.typeIn K (.ref a_TooMany___init__) = some (.type "function"))
    (sb_NoNumber : PySem.W.subIn K (.ref c_NoNumber) (.type "BaseException") = some true)
    (ty_NoNumber : PySem.W.typeIn K (.ref c_NoNumber) = some (.type "type"))
    (hx_NoNumber : PySem.W.hasDictIn K c_NoNumber = true)
    (gx_NoNumber : PySem.W.findIn K (.ref c_NoNumber) "__getattribute__" = some (some (.builtin "BaseException.__getattribute__")))
    (gg_NoNumber : PySem.W.findIn K (.ref c_NoNumber) "__getattr__" = some none)
    (cx_NoNumber : PySem.W.findIn K (.ref c_NoNumber) "__class__" = some (some (.builtin "object.__class__")))
    (mx_NoNumber : PySem.W.mroIn K c_NoNumber (.type "object") = some true)
    (cix_NoNumber : PySem.W.isClsIn K c_NoNumber = true)
    (kx_NoNumber : PySem.W.keepIn K (.ref c_NoNumber) = true)
    (sb_NoNet : PySem.W.subIn K (.ref c_NoNet) (.type "BaseException") = some true)
    (ty_NoNet : PySem.W.typeIn K (.ref c_NoNet) = some (.type "type"))
    (hx_NoNet : PySem.W.hasDictIn K c_NoNet = true)
    (gx_NoNet : PySem.W.findIn K (.ref c_NoNet) "__getattribute__" = some (some (.builtin "BaseException.__getattribute__")))
    (gg_NoNet : PySem.W.findIn K (.ref c_NoNet) "__getattr__" = some none)
    (cx_NoNet : PySem.W.findIn K (.ref c_NoNet) "__class__" = some (some (.builtin "object.__class__")))
    (mx_NoNet : PySem.W.mroIn K c_NoNet (.type "object") = some true)
    (cix_NoNet : PySem.W.isClsIn K c_NoNet = true)
    (kx_NoNet : PySem.W.keepIn K (.ref c_NoNet) = true)
    (sb_NoLetters : PySem.W.subIn K (.ref c_NoLetters) (.type "BaseException") = some true)
    (ty_NoLetters : PySem.W.typeIn K (.ref c_NoLetters) = some (.type "type"))
    (hx_NoLetters : PySem.W.hasDictIn K c_NoLetters = true)
    (gx_NoLetters : PySem.W.findIn K (.ref c_NoLetters) "__getattribute__" = some (some (.builtin "BaseException.__getattribute__")))
    (gg_NoLetters : PySem.W.findIn K (.ref c_NoLetters) "__getattr__" = some none)
    (cx_NoLetters : PySem.W.findIn K (.ref c_NoLetters) "__class__" = some (some (.builtin "object.__class__")))
    (mx_NoLetters : PySem.W.mroIn K c_NoLetters (.type "object") = some true)
    (cix_NoLetters : PySem.W.isClsIn K c_NoLetters = true)
    (kx_NoLetters : PySem.W.keepIn K (.ref c_NoLetters) = true)
    (su_TalkError_BadSchedule : PySem.W.subIn K (.ref c_TalkError) (.ref c_BadSchedule) = some false)
    (su_BadSchedule_BadSchedule : PySem.W.subIn K (.ref c_BadSchedule) (.ref c_BadSchedule) = some true)
    (su_TooMany_BadSchedule : PySem.W.subIn K (.ref c_TooMany) (.ref c_BadSchedule) = some false)
    (su_NoNumber_BadSchedule : PySem.W.subIn K (.ref c_NoNumber) (.ref c_BadSchedule) = some false)
    (su_NoNet_BadSchedule : PySem.W.subIn K (.ref c_NoNet) (.ref c_BadSchedule) = some false)
    (su_NoLetters_BadSchedule : PySem.W.subIn K (.ref c_NoLetters) (.ref c_BadSchedule) = some false)
    (su_TalkError_TalkError : PySem.W.subIn K (.ref c_TalkError) (.ref c_TalkError) = some true)
    (su_BadSchedule_TalkError : PySem.W.subIn K (.ref c_BadSchedule) (.ref c_TalkError) = some true)
    (su_TooMany_TalkError : PySem.W.subIn K (.ref c_TooMany) (.ref c_TalkError) = some true)
    (su_NoNumber_TalkError : PySem.W.subIn K (.ref c_NoNumber) (.ref c_TalkError) = some true)
    (su_NoNet_TalkError : PySem.W.subIn K (.ref c_NoNet) (.ref c_TalkError) = some true)
    (su_NoLetters_TalkError : PySem.W.subIn K (.ref c_NoLetters) (.ref c_TalkError) = some true)
    (su_TalkError_TooMany : PySem.W.subIn K (.ref c_TalkError) (.ref c_TooMany) = some false)
    (su_BadSchedule_TooMany : PySem.W.subIn K (.ref c_BadSchedule) (.ref c_TooMany) = some false)
    (su_TooMany_TooMany : PySem.W.subIn K (.ref c_TooMany) (.ref c_TooMany) = some true)
    (su_NoNumber_TooMany : PySem.W.subIn K (.ref c_NoNumber) (.ref c_TooMany) = some false)
    (su_NoNet_TooMany : PySem.W.subIn K (.ref c_NoNet) (.ref c_TooMany) = some false)
    (su_NoLetters_TooMany : PySem.W.subIn K (.ref c_NoLetters) (.ref c_TooMany) = some false)
    (su_TalkError_ValueError : PySem.W.subIn K (.ref c_TalkError) (.type "ValueError") = some true)
    (su_BadSchedule_ValueError : PySem.W.subIn K (.ref c_BadSchedule) (.type "ValueError") = some true)
    (su_TooMany_ValueError : PySem.W.subIn K (.ref c_TooMany) (.type "ValueError") = some true)
    (su_NoNumber_ValueError : PySem.W.subIn K (.ref c_NoNumber) (.type "ValueError") = some true)
    (su_NoNet_ValueError : PySem.W.subIn K (.ref c_NoNet) (.type "ValueError") = some true)
    (su_NoLetters_ValueError : PySem.W.subIn K (.ref c_NoLetters) (.type "ValueError") = some true)
    (cg : PySem.W.specialIn K (.builtin "object.__class__") "__get__" = some (some (.builtin "getset_descriptor.__get__")))
    (ct : PySem.W.takesIn K (.builtin "object.__class__") = some true)
    (q_LEAST_HOUSES : PySem.W.nsIn K mainGlobals "LEAST_HOUSES" = some (some (Value.int 2 t_LEAST_HOUSES)))
    (q_MOST_HOUSES : PySem.W.nsIn K mainGlobals "MOST_HOUSES" = some (some (Value.int 8 t_MOST_HOUSES)))
    (q_MOST_LETTERS : PySem.W.nsIn K mainGlobals "MOST_LETTERS" = some (some (Value.int 60 t_MOST_LETTERS)))
    (q_MOST_BEAT : PySem.W.nsIn K mainGlobals "MOST_BEAT" = some (some (Value.int 999 t_MOST_BEAT)))
    (b_ValueError : PySem.W.nsIn K mainGlobals "ValueError" = some none)
    (b_abs : PySem.W.nsIn K mainGlobals "abs" = some none)
    (b_all : PySem.W.nsIn K mainGlobals "all" = some none)
    (b_bool : PySem.W.nsIn K mainGlobals "bool" = some none)
    (b_enumerate : PySem.W.nsIn K mainGlobals "enumerate" = some none)
    (b_int : PySem.W.nsIn K mainGlobals "int" = some none)
    (b_isinstance : PySem.W.nsIn K mainGlobals "isinstance" = some none)
    (b_len : PySem.W.nsIn K mainGlobals "len" = some none)
    (b_list : PySem.W.nsIn K mainGlobals "list" = some none)
    (b_max : PySem.W.nsIn K mainGlobals "max" = some none)
    (b_min : PySem.W.nsIn K mainGlobals "min" = some none)
    (b_range : PySem.W.nsIn K mainGlobals "range" = some none)
    (b_str : PySem.W.nsIn K mainGlobals "str" = some none)
    (b_tuple : PySem.W.nsIn K mainGlobals "tuple" = some none)
    (b_zip : PySem.W.nsIn K mainGlobals "zip" = some none) :
    ∃ a : Adr, Txt K mg a ∧ mg "law" = some (.ref a.a_law) := by
  obtain ⟨d_is_integer, F_is_integer, B_is_integer⟩ := fun_at (st := s_is_integer) (ps := ["thing"]) l_is_integer e_is_integer kk_is_integer (fun _ _ _ _ _ _ us hl => match us, hl with | [_], _ => rfl)
  obtain ⟨d_is_between, F_is_between, B_is_between⟩ := fun_at (st := s_is_between) (ps := ["thing", "low", "high"]) l_is_between e_is_between kk_is_between (fun _ _ _ _ _ _ us hl => match us, hl with | [_, _, _], _ => rfl)
  obtain ⟨d_is_sized, F_is_sized, B_is_sized⟩ := fun_at (st := s_is_sized) (ps := ["thing", "low", "high"]) l_is_sized e_is_sized kk_is_sized (fun _ _ _ _ _ _ us hl => match us, hl with | [_, _, _], _ => rfl)
  obtain ⟨d_is_lot, F_is_lot, B_is_lot⟩ := fun_at (st := s_is_lot) (ps := ["thing", "below"]) l_is_lot e_is_lot kk_is_lot (fun _ _ _ _ _ _ us hl => match us, hl with | [_, _], _ => rfl)
  obtain ⟨d_BadSchedule___init__, F_BadSchedule___init__, B_BadSchedule___init__⟩ := fun_at (st := s_BadSchedule___init__) (ps := ["self", "part"]) l_BadSchedule___init__ e_BadSchedule___init__ kk_BadSchedule___init__ (fun _ _ _ _ _ _ us hl => match us, hl with | [_, _], _ => rfl)
  obtain ⟨d_TooMany___init__, F_TooMany___init__, B_TooMany___init__⟩ := fun_at (st := s_TooMany___init__) (ps := ["self", "most"]) l_TooMany___init__ e_TooMany___init__ kk_TooMany___init__ (fun _ _ _ _ _ _ us hl => match us, hl with | [_, _], _ => rfl)
  obtain ⟨d_is_letter, F_is_letter, B_is_letter⟩ := fun_at (st := s_is_letter) (ps := ["many", "thing"]) l_is_letter e_is_letter kk_is_letter (fun _ _ _ _ _ _ us hl => match us, hl with | [_, _], _ => rfl)
  obtain ⟨d_first_wrong, F_first_wrong, B_first_wrong⟩ := fun_at (st := s_first_wrong) (ps := ["many", "letters"]) l_first_wrong e_first_wrong kk_first_wrong (fun _ _ _ _ _ _ us hl => match us, hl with | [_, _], _ => rfl)
  obtain ⟨d_Schedule___init__, F_Schedule___init__, B_Schedule___init__⟩ := fun_at (st := s_Schedule___init__) (ps := ["self", "many", "letters"]) l_Schedule___init__ e_Schedule___init__ kk_Schedule___init__ (fun _ _ _ _ _ _ us hl => match us, hl with | [_, _, _], _ => rfl)
  obtain ⟨d_Schedule___eq__, F_Schedule___eq__, B_Schedule___eq__⟩ := fun_at (st := s_Schedule___eq__) (ps := ["self", "thing"]) l_Schedule___eq__ e_Schedule___eq__ kk_Schedule___eq__ (fun _ _ _ _ _ _ us hl => match us, hl with | [_, _], _ => rfl)
  obtain ⟨d_turns_line, F_turns_line, B_turns_line⟩ := fun_at (st := s_turns_line) (ps := ["n"]) l_turns_line e_turns_line kk_turns_line (fun _ _ _ _ _ _ us hl => match us, hl with | [_], _ => rfl)
  obtain ⟨d_both_line, F_both_line, B_both_line⟩ := fun_at (st := s_both_line) (ps := ["n"]) l_both_line e_both_line kk_both_line (fun _ _ _ _ _ _ us hl => match us, hl with | [_], _ => rfl)
  obtain ⟨d_are_ties, F_are_ties, B_are_ties⟩ := fun_at (st := s_are_ties) (ps := ["many", "thing"]) l_are_ties e_are_ties kk_are_ties (fun _ _ _ _ _ _ us hl => match us, hl with | [_, _], _ => rfl)
  obtain ⟨d_net_schedule, F_net_schedule, B_net_schedule⟩ := fun_at (st := s_net_schedule) (ps := ["many", "ties", "beats"]) l_net_schedule e_net_schedule kk_net_schedule (fun _ _ _ _ _ _ us hl => match us, hl with | [_, _, _], _ => rfl)
  obtain ⟨d_without, F_without, B_without⟩ := fun_at (st := s_without) (ps := ["schedule", "letters"]) l_without e_without kk_without (fun _ _ _ _ _ _ us hl => match us, hl with | [_, _], _ => rfl)
  obtain ⟨d__law_hand, F__law_hand, B__law_hand⟩ := fun_at (st := s__law_hand) (ps := ["script"]) l__law_hand e__law_hand kk__law_hand (fun _ _ _ _ _ _ us hl => match us, hl with | [_], _ => rfl)
  obtain ⟨d__law_draw, F__law_draw, B__law_draw⟩ := fun_at (st := s__law_draw) (ps := ["hand", "many"]) l__law_draw e__law_draw kk__law_draw (fun _ _ _ _ _ _ us hl => match us, hl with | [_, _], _ => rfl)
  obtain ⟨d__law_some, F__law_some, B__law_some⟩ := fun_at (st := s__law_some) (ps := ["hand", "things"]) l__law_some e__law_some kk__law_some (fun _ _ _ _ _ _ us hl => match us, hl with | [_, _], _ => rfl)
  obtain ⟨d__law_is, F__law_is, B__law_is⟩ := fun_at (st := s__law_is) (ps := ["told", "due"]) l__law_is e__law_is kk__law_is (fun _ _ _ _ _ _ us hl => match us, hl with | [_, _], _ => rfl)
  obtain ⟨d__law_is_number, F__law_is_number, B__law_is_number⟩ := fun_at (st := s__law_is_number) (ps := ["thing", "many"]) l__law_is_number e__law_is_number kk__law_is_number (fun _ _ _ _ _ _ us hl => match us, hl with | [_, _], _ => rfl)
  obtain ⟨d__law_deep, F__law_deep, B__law_deep⟩ := fun_at (st := s__law_deep) (ps := ["kind"]) l__law_deep e__law_deep kk__law_deep (fun _ _ _ _ _ _ us hl => match us, hl with | [_], _ => rfl)
  obtain ⟨d__law_letters, F__law_letters, B__law_letters⟩ := fun_at (st := s__law_letters) (ps := ["hand", "many", "most"]) l__law_letters e__law_letters kk__law_letters (fun _ _ _ _ _ _ us hl => match us, hl with | [_, _, _], _ => rfl)
  obtain ⟨d__law_is_letter, F__law_is_letter, B__law_is_letter⟩ := fun_at (st := s__law_is_letter) (ps := ["many", "one"]) l__law_is_letter e__law_is_letter kk__law_is_letter (fun _ _ _ _ _ _ us hl => match us, hl with | [_, _], _ => rfl)
  obtain ⟨d__law_part, F__law_part, B__law_part⟩ := fun_at (st := s__law_part) (ps := ["many", "letters"]) l__law_part e__law_part kk__law_part (fun _ _ _ _ _ _ us hl => match us, hl with | [_, _], _ => rfl)
  obtain ⟨d__law_spoilt, F__law_spoilt, B__law_spoilt⟩ := fun_at (st := s__law_spoilt) (ps := ["hand", "many", "letters"]) l__law_spoilt e__law_spoilt kk__law_spoilt (fun _ _ _ _ _ _ us hl => match us, hl with | [_, _, _], _ => rfl)
  obtain ⟨d__law_full, F__law_full, B__law_full⟩ := fun_at (st := s__law_full) (ps := ["hand", "many"]) l__law_full e__law_full kk__law_full (fun _ _ _ _ _ _ us hl => match us, hl with | [_, _], _ => rfl)
  obtain ⟨d__law_made, F__law_made, B__law_made⟩ := fun_at (st := s__law_made) (ps := ["many", "letters"]) l__law_made e__law_made kk__law_made (fun _ _ _ _ _ _ us hl => match us, hl with | [_, _], _ => rfl)
  obtain ⟨d__law_equals, F__law_equals, B__law_equals⟩ := fun_at (st := s__law_equals) (ps := ["hand", "many", "letters"]) l__law_equals e__law_equals kk__law_equals (fun _ _ _ _ _ _ us hl => match us, hl with | [_, _, _], _ => rfl)
  obtain ⟨d__law_lines, F__law_lines, B__law_lines⟩ := fun_at (st := s__law_lines) (ps := ["n"]) l__law_lines e__law_lines kk__law_lines (fun _ _ _ _ _ _ us hl => match us, hl with | [_], _ => rfl)
  obtain ⟨d__law_net, F__law_net, B__law_net⟩ := fun_at (st := s__law_net) (ps := ["many", "ties", "beats"]) l__law_net e__law_net kk__law_net (fun _ _ _ _ _ _ us hl => match us, hl with | [_, _, _], _ => rfl)
  obtain ⟨d_law, F_law, B_law⟩ := fun_at (st := s_law) (ps := ["script"]) l_law e_law kk_law (fun _ _ _ _ _ _ us hl => match us, hl with | [_], _ => rfl)
  let a : Adr := { a_is_integer := a_is_integer, d_is_integer := d_is_integer, a_is_between := a_is_between, d_is_between := d_is_between, a_is_sized := a_is_sized, d_is_sized := d_is_sized, a_is_lot := a_is_lot, d_is_lot := d_is_lot, a_BadSchedule___init__ := a_BadSchedule___init__, d_BadSchedule___init__ := d_BadSchedule___init__, a_TooMany___init__ := a_TooMany___init__, d_TooMany___init__ := d_TooMany___init__, a_is_letter := a_is_letter, d_is_letter := d_is_letter, a_first_wrong := a_first_wrong, d_first_wrong := d_first_wrong, a_Schedule___init__ := a_Schedule___init__, d_Schedule___init__ := d_Schedule___init__, a_Schedule___eq__ := a_Schedule___eq__, d_Schedule___eq__ := d_Schedule___eq__, a_turns_line := a_turns_line, d_turns_line := d_turns_line, a_both_line := a_both_line, d_both_line := d_both_line, a_are_ties := a_are_ties, d_are_ties := d_are_ties, a_net_schedule := a_net_schedule, d_net_schedule := d_net_schedule, a_without := a_without, d_without := d_without, a__law_hand := a__law_hand, d__law_hand := d__law_hand, a__law_draw := a__law_draw, d__law_draw := d__law_draw, a__law_some := a__law_some, d__law_some := d__law_some, a__law_is := a__law_is, d__law_is := d__law_is, a__law_is_number := a__law_is_number, d__law_is_number := d__law_is_number, a__law_deep := a__law_deep, d__law_deep := d__law_deep, a__law_letters := a__law_letters, d__law_letters := d__law_letters, a__law_is_letter := a__law_is_letter, d__law_is_letter := d__law_is_letter, a__law_part := a__law_part, d__law_part := d__law_part, a__law_spoilt := a__law_spoilt, d__law_spoilt := d__law_spoilt, a__law_full := a__law_full, d__law_full := d__law_full, a__law_made := a__law_made, d__law_made := d__law_made, a__law_equals := a__law_equals, d__law_equals := d__law_equals, a__law_lines := a__law_lines, d__law_lines := d__law_lines, a__law_net := a__law_net, d__law_net := d__law_net, a_law := a_law, d_law := d_law, c_TalkError := c_TalkError, c_BadSchedule := c_BadSchedule, c_TooMany := c_TooMany, c_NoNumber := c_NoNumber, c_NoNet := c_NoNet, c_NoLetters := c_NoLetters, c_Schedule := c_Schedule }
  have T : Txt K mg a := {
    f_is_integer := F_is_integer, b_is_integer := B_is_integer, kp_is_integer := kk_is_integer,
    mg_is_integer := PySem.W.mg_of X G n_is_integer,
    f_is_between := F_is_between, b_is_between := B_is_between, kp_is_between := kk_is_between,
    mg_is_between := PySem.W.mg_of X G n_is_between,
    f_is_sized := F_is_sized, b_is_sized := B_is_sized, kp_is_sized := kk_is_sized,
    mg_is_sized := PySem.W.mg_of X G n_is_sized,
    f_is_lot := F_is_lot, b_is_lot := B_is_lot, kp_is_lot := kk_is_lot,
    mg_is_lot := PySem.W.mg_of X G n_is_lot,
    f_BadSchedule___init__ := F_BadSchedule___init__, b_BadSchedule___init__ := B_BadSchedule___init__, kp_BadSchedule___init__ := kk_BadSchedule___init__,
    f_TooMany___init__ := F_TooMany___init__, b_TooMany___init__ := B_TooMany___init__, kp_TooMany___init__ := kk_TooMany___init__,
    f_is_letter := F_is_letter, b_is_letter := B_is_letter, kp_is_letter := kk_is_letter,
    mg_is_letter := PySem.W.mg_of X G n_is_letter,
    f_first_wrong := F_first_wrong, b_first_wrong := B_first_wrong, kp_first_wrong := kk_first_wrong,
    mg_first_wrong := PySem.W.mg_of X G n_first_wrong,
    f_Schedule___init__ := F_Schedule___init__, b_Schedule___init__ := B_Schedule___init__, kp_Schedule___init__ := kk_Schedule___init__,
    f_Schedule___eq__ := F_Schedule___eq__, b_Schedule___eq__ := B_Schedule___eq__, kp_Schedule___eq__ := kk_Schedule___eq__,
    f_turns_line := F_turns_line, b_turns_line := B_turns_line, kp_turns_line := kk_turns_line,
    mg_turns_line := PySem.W.mg_of X G n_turns_line,
    f_both_line := F_both_line, b_both_line := B_both_line, kp_both_line := kk_both_line,
    mg_both_line := PySem.W.mg_of X G n_both_line,
    f_are_ties := F_are_ties, b_are_ties := B_are_ties, kp_are_ties := kk_are_ties,
    mg_are_ties := PySem.W.mg_of X G n_are_ties,
    f_net_schedule := F_net_schedule, b_net_schedule := B_net_schedule, kp_net_schedule := kk_net_schedule,
    mg_net_schedule := PySem.W.mg_of X G n_net_schedule,
    f_without := F_without, b_without := B_without, kp_without := kk_without,
    mg_without := PySem.W.mg_of X G n_without,
    f__law_hand := F__law_hand, b__law_hand := B__law_hand, kp__law_hand := kk__law_hand,
    mg__law_hand := PySem.W.mg_of X G n__law_hand,
    f__law_draw := F__law_draw, b__law_draw := B__law_draw, kp__law_draw := kk__law_draw,
    mg__law_draw := PySem.W.mg_of X G n__law_draw,
    f__law_some := F__law_some, b__law_some := B__law_some, kp__law_some := kk__law_some,
    mg__law_some := PySem.W.mg_of X G n__law_some,
    f__law_is := F__law_is, b__law_is := B__law_is, kp__law_is := kk__law_is,
    mg__law_is := PySem.W.mg_of X G n__law_is,
    f__law_is_number := F__law_is_number, b__law_is_number := B__law_is_number, kp__law_is_number := kk__law_is_number,
    mg__law_is_number := PySem.W.mg_of X G n__law_is_number,
    f__law_deep := F__law_deep, b__law_deep := B__law_deep, kp__law_deep := kk__law_deep,
    mg__law_deep := PySem.W.mg_of X G n__law_deep,
    f__law_letters := F__law_letters, b__law_letters := B__law_letters, kp__law_letters := kk__law_letters,
    mg__law_letters := PySem.W.mg_of X G n__law_letters,
    f__law_is_letter := F__law_is_letter, b__law_is_letter := B__law_is_letter, kp__law_is_letter := kk__law_is_letter,
    mg__law_is_letter := PySem.W.mg_of X G n__law_is_letter,
    f__law_part := F__law_part, b__law_part := B__law_part, kp__law_part := kk__law_part,
    mg__law_part := PySem.W.mg_of X G n__law_part,
    f__law_spoilt := F__law_spoilt, b__law_spoilt := B__law_spoilt, kp__law_spoilt := kk__law_spoilt,
    mg__law_spoilt := PySem.W.mg_of X G n__law_spoilt,
    f__law_full := F__law_full, b__law_full := B__law_full, kp__law_full := kk__law_full,
    mg__law_full := PySem.W.mg_of X G n__law_full,
    f__law_made := F__law_made, b__law_made := B__law_made, kp__law_made := kk__law_made,
    mg__law_made := PySem.W.mg_of X G n__law_made,
    f__law_equals := F__law_equals, b__law_equals := B__law_equals, kp__law_equals := kk__law_equals,
    mg__law_equals := PySem.W.mg_of X G n__law_equals,
    f__law_lines := F__law_lines, b__law_lines := B__law_lines, kp__law_lines := kk__law_lines,
    mg__law_lines := PySem.W.mg_of X G n__law_lines,
    f__law_net := F__law_net, b__law_net := B__law_net, kp__law_net := kk__law_net,
    mg__law_net := PySem.W.mg_of X G n__law_net,
    f_law := F_law, b_law := B_law, kp_law := kk_law,
    mg_law := PySem.W.mg_of X G n_law,
    mg_Schedule := PySem.W.mg_of X G m_Schedule,
    mk_Schedule := ⟨mm_Schedule, n_Schedule___init__, mf_Schedule, mk_Schedule⟩,
    eq_Schedule := n_Schedule___eq__, eqf_Schedule := ef_Schedule,
    cl := fun c => ⟨pg_Schedule, hd_Schedule, po_Schedule, sa_Schedule⟩,
    insTy := fun c => ⟨⟨pg_Schedule, hd_Schedule, po_Schedule, sa_Schedule⟩, ca_Schedule, cg, ct, cm_Schedule, ci_Schedule, cy_Schedule⟩,
    unl := fun c c' h1 h2 ne => (ne (by omega)).elim,
    na_part := fun c => na_part_Schedule,
    na_most := fun c => na_most_Schedule,
    na_many := fun c => na_many_Schedule,
    na_letters := fun c => na_letters_Schedule,
    exT := fun c => match c with | 1 => ⟨cix_BadSchedule, gx_BadSchedule, gg_BadSchedule, sb_BadSchedule, cx_BadSchedule, cg, ct, mx_BadSchedule⟩ | 2 => ⟨cix_TooMany, gx_TooMany, gg_TooMany, sb_TooMany, cx_TooMany, cg, ct, mx_TooMany⟩ | 3 => ⟨cix_NoNumber, gx_NoNumber, gg_NoNumber, sb_NoNumber, cx_NoNumber, cg, ct, mx_NoNumber⟩ | 4 => ⟨cix_NoNet, gx_NoNet, gg_NoNet, sb_NoNet, cx_NoNet, cg, ct, mx_NoNet⟩ | 5 => ⟨cix_NoLetters, gx_NoLetters, gg_NoLetters, sb_NoLetters, cx_NoLetters, cg, ct, mx_NoLetters⟩ | 0 => ⟨cix_TalkError, gx_TalkError, gg_TalkError, sb_TalkError, cx_TalkError, cg, ct, mx_TalkError⟩ | _ + 6 => ⟨cix_TalkError, gx_TalkError, gg_TalkError, sb_TalkError, cx_TalkError, cg, ct, mx_TalkError⟩,
    mgx_BadSchedule := PySem.W.mg_of X G m_BadSchedule,
    mgx_TalkError := PySem.W.mg_of X G m_TalkError,
    mgx_TooMany := PySem.W.mg_of X G m_TooMany,
    exm_BadSchedule := fun c => match c with | 1 => PySem.W.exm_ref sb_BadSchedule hx_BadSchedule ty_BadSchedule su_BadSchedule_BadSchedule | 2 => PySem.W.exm_ref sb_BadSchedule hx_BadSchedule ty_BadSchedule su_TooMany_BadSchedule | 3 => PySem.W.exm_ref sb_BadSchedule hx_BadSchedule ty_BadSchedule su_NoNumber_BadSchedule | 4 => PySem.W.exm_ref sb_BadSchedule hx_BadSchedule ty_BadSchedule su_NoNet_BadSchedule | 5 => PySem.W.exm_ref sb_BadSchedule hx_BadSchedule ty_BadSchedule su_NoLetters_BadSchedule | 0 => PySem.W.exm_ref sb_BadSchedule hx_BadSchedule ty_BadSchedule su_TalkError_BadSchedule | _ + 6 => PySem.W.exm_ref sb_BadSchedule hx_BadSchedule ty_BadSchedule su_TalkError_BadSchedule,
    exm_TooMany := fun c => match c with | 1 => PySem.W.exm_ref sb_TooMany hx_TooMany ty_TooMany su_BadSchedule_TooMany | 2 => PySem.W.exm_ref sb_TooMany hx_TooMany ty_TooMany su_TooMany_TooMany | 3 => PySem.W.exm_ref sb_TooMany hx_TooMany ty_TooMany su_NoNumber_TooMany | 4 => PySem.W.exm_ref sb_TooMany hx_TooMany ty_TooMany su_NoNet_TooMany | 5 => PySem.W.exm_ref sb_TooMany hx_TooMany ty_TooMany su_NoLetters_TooMany | 0 => PySem.W.exm_ref sb_TooMany hx_TooMany ty_TooMany su_TalkError_TooMany | _ + 6 => PySem.W.exm_ref sb_TooMany hx_TooMany ty_TooMany su_TalkError_TooMany,
    kit_TalkError := fun c => match c with | 1 => kit_sub cix_TalkError ty_TalkError su_TalkError_TalkError su_BadSchedule_TalkError | 2 => kit_sub cix_TalkError ty_TalkError su_TalkError_TalkError su_TooMany_TalkError | 3 => kit_sub cix_TalkError ty_TalkError su_TalkError_TalkError su_NoNumber_TalkError | 4 => kit_sub cix_TalkError ty_TalkError su_TalkError_TalkError su_NoNet_TalkError | 5 => kit_sub cix_TalkError ty_TalkError su_TalkError_TalkError su_NoLetters_TalkError | 0 => kit_sub cix_TalkError ty_TalkError su_TalkError_TalkError su_TalkError_TalkError | _ + 6 => kit_sub cix_TalkError ty_TalkError su_TalkError_TalkError su_TalkError_TalkError,
    kit_ValueError := fun c => match c with | 1 => kit_subT rfl su_BadSchedule_ValueError | 2 => kit_subT rfl su_TooMany_ValueError | 3 => kit_subT rfl su_NoNumber_ValueError | 4 => kit_subT rfl su_NoNet_ValueError | 5 => kit_subT rfl su_NoLetters_ValueError | 0 => kit_subT rfl su_TalkError_ValueError | _ + 6 => kit_subT rfl su_TalkError_ValueError,
    oex_BadSchedule := ⟨⟨nm_BadSchedule, q_BadSchedule, N_BadSchedule, bs_BadSchedule, _, sn_BadSchedule, sub_BadSchedule, ab_BadSchedule, col_BadSchedule, dd_BadSchedule, k0_BadSchedule, k1_BadSchedule, k2_BadSchedule, k3_BadSchedule, k5_BadSchedule, xl_BadSchedule, rfl⟩, sxx_BadSchedule, sb_BadSchedule, ty_BadSchedule, kx_BadSchedule⟩,
    xf_BadSchedule := ⟨gx_BadSchedule, gg_BadSchedule, sb_BadSchedule, hx_BadSchedule⟩, ini_BadSchedule := n_BadSchedule___init__, tyf_BadSchedule := ti_BadSchedule, nof_BadSchedule := nf_BadSchedule,
    oex_TooMany := ⟨⟨nm_TooMany, q_TooMany, N_TooMany, bs_TooMany, _, sn_TooMany, sub_TooMany, ab_TooMany, col_TooMany, dd_TooMany, k0_TooMany, k1_TooMany, k2_TooMany, k3_TooMany, k5_TooMany, xl_TooMany, rfl⟩, sxx_TooMany, sb_TooMany, ty_TooMany, kx_TooMany⟩,
    xf_TooMany := ⟨gx_TooMany, gg_TooMany, sb_TooMany, hx_TooMany⟩, ini_TooMany := n_TooMany___init__, tyf_TooMany := ti_TooMany, nof_TooMany := nf_TooMany,
    k_LEAST_HOUSES := ⟨_, PySem.W.mg_of X G q_LEAST_HOUSES, ⟨_, rfl⟩⟩,
    k_MOST_HOUSES := ⟨_, PySem.W.mg_of X G q_MOST_HOUSES, ⟨_, rfl⟩⟩,
    k_MOST_LETTERS := ⟨_, PySem.W.mg_of X G q_MOST_LETTERS, ⟨_, rfl⟩⟩,
    k_MOST_BEAT := ⟨_, PySem.W.mg_of X G q_MOST_BEAT, ⟨_, rfl⟩⟩,
    b_ValueError := PySem.W.mg_none_of X G b_ValueError,
    b_abs := PySem.W.mg_none_of X G b_abs,
    b_all := PySem.W.mg_none_of X G b_all,
    b_bool := PySem.W.mg_none_of X G b_bool,
    b_enumerate := PySem.W.mg_none_of X G b_enumerate,
    b_int := PySem.W.mg_none_of X G b_int,
    b_isinstance := PySem.W.mg_none_of X G b_isinstance,
    b_len := PySem.W.mg_none_of X G b_len,
    b_list := PySem.W.mg_none_of X G b_list,
    b_max := PySem.W.mg_none_of X G b_max,
    b_min := PySem.W.mg_none_of X G b_min,
    b_range := PySem.W.mg_none_of X G b_range,
    b_str := PySem.W.mg_none_of X G b_str,
    b_tuple := PySem.W.mg_none_of X G b_tuple,
    b_zip := PySem.W.mg_none_of X G b_zip }
  exact ⟨a, T, PySem.W.mg_of X G n_law⟩
theorem walk {l : PySem.W.OpenLaw} {q : Program} {loose : List Str} {XP : (Str → Option Value) → Heap → Prop} {YP : World → Heap → Prop} {d : DefRec} {K : Params → PySem.W.Frag} (hn : l.most = some 63) (hdf : d.params.defaults = []) (hnm : d.name = "law")
    (hY : ∀ (w : World) (h : Heap), YP w h → (K w.params).In h)
    (F : ∀ (w : World) (mg : Str → Option Value) (h : Heap), (K w.params).In h → h.Ns mainGlobals mg → ∃ a : Adr, Txt (K w.params) mg a ∧ mg "law" = some (.ref a.a_law))
    (main : ∀ ns : List Int, ns.length ≤ 63 → ∃ bs, sem_law [.fz (.scr ns)] = .val (.bl true) bs) :
    PySem.W.WalkO q loose XP YP l.row.toRowW d [] (fun f vs => PySem.call f vs) := by
  refine Att.attach_call hn hdf fun w s₀ s₁ mg mb fa o pm cd doc a vs ns G Y ho hd hcd hmg hobj hints hlen hg => ?_
  have KX := hY w _ Y
  obtain ⟨ad, T, hlaw⟩ := F w mg _ KX G.T.g
  rw [hnm] at hmg
  obtain rfl : fa = ad.a_law := by
    rw [hmg] at hlaw
    injection (Option.some.inj hlaw)
  obtain ⟨oc, od, kV, dc, pm', an, cdv, ct, osl, efd, _, _⟩ := T.f_law.ex
  refine law_call (CX := L2.CX l.prog w) (k := 11) (fd := ad.d_law) (x := "script") (sp := spF (gm (K w.params) ad) 1 sem_law) KX G.T.g G.T.b G.T.builtins G.T.nolimit hg hobj hints (Nat.le_trans hlen (by decide)) ⟨rfl, by decide, by decide⟩ (fun base _ _ => ok_law T base) (fun s u => by rw [efd]; exact .of_eq rfl) (fun H hO hS => law_sp hO hS (main ns hlen)) fun H e s' z => ?_
  obtain ⟨_, _, _, _, _, _, _, _, _, _, _, _, z⟩ := z
  exact z
end Law

open PySem PySem.W PyProof.Rows in
set_option maxRecDepth 100000 in
set_option maxHeartbeats 0 in
theorem PySem.Challenge.cw_turnedtalk_k08_whole_schedules_judged_holds : PySem.Challenge.rw_turnedtalk_k08_whole_schedules_judged.Holds := by
  w_on; o_law; k_head; (case hw => w_witness2)
  k_fill
  refine Law.walk (l := PySem.Challenge.rw_turnedtalk_k08_whole_schedules_judged) rfl rfl (by decide +kernel) (fun w h Y => PySem.W.kIn_of Y) ?F Law.main
  case F =>
    intro w mg h KX G
    refine' Law.all_mk KX G ?m_TalkError ?m_BadSchedule ?m_TooMany ?m_NoNumber ?m_NoNet ?m_NoLetters ?m_Schedule ?n_is_integer ?l_is_integer ?e_is_integer ?kk_is_integer ?n_is_between ?l_is_between ?e_is_between ?kk_is_between ?n_is_sized ?l_is_sized ?e_is_sized ?kk_is_sized ?n_is_lot ?l_is_lot ?e_is_lot ?kk_is_lot ?n_BadSchedule___init__ ?l_BadSchedule___init__ ?e_BadSchedule___init__ ?kk_BadSchedule___init__ ?n_TooMany___init__ ?l_TooMany___init__ ?e_TooMany___init__ ?kk_TooMany___init__ ?n_is_letter ?l_is_letter ?e_is_letter ?kk_is_letter ?n_first_wrong ?l_first_wrong ?e_first_wrong ?kk_first_wrong ?n_Schedule___init__ ?l_Schedule___init__ ?e_Schedule___init__ ?kk_Schedule___init__ ?n_Schedule___eq__ ?l_Schedule___eq__ ?e_Schedule___eq__ ?kk_Schedule___eq__ ?n_turns_line ?l_turns_line ?e_turns_line ?kk_turns_line ?n_both_line ?l_both_line ?e_both_line ?kk_both_line ?n_are_ties ?l_are_ties ?e_are_ties ?kk_are_ties ?n_net_schedule ?l_net_schedule ?e_net_schedule ?kk_net_schedule ?n_without ?l_without ?e_without ?kk_without ?n__law_hand ?l__law_hand ?e__law_hand ?kk__law_hand ?n__law_draw ?l__law_draw ?e__law_draw ?kk__law_draw ?n__law_some ?l__law_some ?e__law_some ?kk__law_some ?n__law_is ?l__law_is ?e__law_is ?kk__law_is ?n__law_is_number ?l__law_is_number ?e__law_is_number ?kk__law_is_number ?n__law_deep ?l__law_deep ?e__law_deep ?kk__law_deep ?n__law_letters ?l__law_letters ?e__law_letters ?kk__law_letters ?n__law_is_letter ?l__law_is_letter ?e__law_is_letter ?kk__law_is_letter ?n__law_part ?l__law_part ?e__law_part ?kk__law_part ?n__law_spoilt ?l__law_spoilt ?e__law_spoilt ?kk__law_spoilt ?n__law_full ?l__law_full ?e__law_full ?kk__law_full ?n__law_made ?l__law_made ?e__law_made ?kk__law_made ?n__law_equals ?l__law_equals ?e__law_equals ?kk__law_equals ?n__law_lines ?l__law_lines ?e__law_lines ?kk__law_lines ?n__law_net ?l__law_net ?e__law_net ?kk__law_net ?n_law ?l_law ?e_law ?kk_law ?pg_Schedule ?hd_Schedule ?po_Schedule ?sa_Schedule ?ca_Schedule ?cm_Schedule ?ci_Schedule ?cy_Schedule ?mm_Schedule ?mf_Schedule ?mk_Schedule ?ef_Schedule ?na_part_Schedule ?na_most_Schedule ?na_many_Schedule ?na_letters_Schedule ?sb_TalkError ?ty_TalkError ?hx_TalkError ?gx_TalkError ?gg_TalkError ?cx_TalkError ?mx_TalkError ?cix_TalkError ?kx_TalkError ?sb_BadSchedule ?ty_BadSchedule ?hx_BadSchedule ?gx_BadSchedule ?gg_BadSchedule ?cx_BadSchedule ?mx_BadSchedule ?cix_BadSchedule ?kx_BadSchedule ?xl_BadSchedule ?sxx_BadSchedule ?nf_BadSchedule ?ti_BadSchedule ?sb_TooMany ?ty_TooMany ?hx_TooMany ?gx_TooMany ?gg_TooMany ?cx_TooMany ?mx_TooMany ?cix_TooMany ?kx_TooMany ?xl_TooMany ?sxx_TooMany ?nf_TooMany ?ti_TooMany ?sb_NoNumber ?ty_NoNumber ?hx_NoNumber ?gx_NoNumber ?gg_NoNumber ?cx_NoNumber ?mx_NoNumber ?cix_NoNumber ?kx_NoNumber ?sb_NoNet ?ty_NoNet ?hx_NoNet ?gx_NoNet ?gg_NoNet ?cx_NoNet ?mx_NoNet ?cix_NoNet ?kx_NoNet ?sb_NoLetters ?ty_NoLetters ?hx_NoLetters ?gx_NoLetters ?gg_NoLetters ?cx_NoLetters ?mx_NoLetters ?cix_NoLetters ?kx_NoLetters ?su_TalkError_BadSchedule ?su_BadSchedule_BadSchedule ?su_TooMany_BadSchedule ?su_NoNumber_BadSchedule ?su_NoNet_BadSchedule ?su_NoLetters_BadSchedule ?su_TalkError_TalkError ?su_BadSchedule_TalkError ?su_TooMany_TalkError ?su_NoNumber_TalkError ?su_NoNet_TalkError ?su_NoLetters_TalkError ?su_TalkError_TooMany ?su_BadSchedule_TooMany ?su_TooMany_TooMany ?su_NoNumber_TooMany ?su_NoNet_TooMany ?su_NoLetters_TooMany ?su_TalkError_ValueError ?su_BadSchedule_ValueError ?su_TooMany_ValueError ?su_NoNumber_ValueError ?su_NoNet_ValueError ?su_NoLetters_ValueError ?cg ?ct ?q_LEAST_HOUSES ?q_MOST_HOUSES ?q_MOST_LETTERS ?q_MOST_BEAT ?b_ValueError ?b_abs ?b_all ?b_bool ?b_enumerate ?b_int ?b_isinstance ?b_len ?b_list ?b_max ?b_min ?b_range ?b_str ?b_tuple ?b_zip
    (case m_TalkError => k_is)
    (case m_BadSchedule => k_is)
    (case m_TooMany => k_is)
    (case m_NoNumber => k_is)
    (case m_NoNet => k_is)
    (case m_NoLetters => k_is)
    (case m_Schedule => k_is)
    (case n_is_integer => k_is)
    (case l_is_integer => k_is)
    (case e_is_integer => k_is)
    (case kk_is_integer => k_is)
    (case n_is_between => k_is)
    (case l_is_between => k_is)
    (case e_is_between => k_is)
    (case kk_is_between => k_is)
    (case n_is_sized => k_is)
    (case l_is_sized => k_is)
    (case e_is_sized => k_is)
    (case kk_is_sized => k_is)
    (case n_is_lot => k_is)
    (case l_is_lot => k_is)
    (case e_is_lot => k_is)
    (case kk_is_lot => k_is)
    (case n_BadSchedule___init__ => k_is)
    (case l_BadSchedule___init__ => k_is)
    (case e_BadSchedule___init__ => k_is)
    (case kk_BadSchedule___init__ => k_is)
    (case n_TooMany___init__ => k_is)
    (case l_TooMany___init__ => k_is)
    (case e_TooMany___init__ => k_is)
    (case kk_TooMany___init__ => k_is)
    (case n_is_letter => k_is)
    (case l_is_letter => k_is)
    (case e_is_letter => k_is)
    (case kk_is_letter => k_is)
    (case n_first_wrong => k_is)
    (case l_first_wrong => k_is)
    (case e_first_wrong => k_is)
    (case kk_first_wrong => k_is)
    (case n_Schedule___init__ => k_is)
    (case l_Schedule___init__ => k_is)
    (case e_Schedule___init__ => k_is)
    (case kk_Schedule___init__ => k_is)
    (case n_Schedule___eq__ => k_is)
    (case l_Schedule___eq__ => k_is)
    (case e_Schedule___eq__ => k_is)
    (case kk_Schedule___eq__ => k_is)
    (case n_turns_line => k_is)
    (case l_turns_line => k_is)
    (case e_turns_line => k_is)
    (case kk_turns_line => k_is)
    (case n_both_line => k_is)
    (case l_both_line => k_is)
    (case e_both_line => k_is)
    (case kk_both_line => k_is)
    (case n_are_ties => k_is)
    (case l_are_ties => k_is)
    (case e_are_ties => k_is)
    (case kk_are_ties => k_is)
    (case n_net_schedule => k_is)
    (case l_net_schedule => k_is)
    (case e_net_schedule => k_is)
    (case kk_net_schedule => k_is)
    (case n_without => k_is)
    (case l_without => k_is)
    (case e_without => k_is)
    (case kk_without => k_is)
    (case n__law_hand => k_is)
    (case l__law_hand => k_is)
    (case e__law_hand => k_is)
    (case kk__law_hand => k_is)
    (case n__law_draw => k_is)
    (case l__law_draw => k_is)
    (case e__law_draw => k_is)
    (case kk__law_draw => k_is)
    (case n__law_some => k_is)
    (case l__law_some => k_is)
    (case e__law_some => k_is)
    (case kk__law_some => k_is)
    (case n__law_is => k_is)
    (case l__law_is => k_is)
    (case e__law_is => k_is)
    (case kk__law_is => k_is)
    (case n__law_is_number => k_is)
    (case l__law_is_number => k_is)
    (case e__law_is_number => k_is)
    (case kk__law_is_number => k_is)
    (case n__law_deep => k_is)
    (case l__law_deep => k_is)
    (case e__law_deep => k_is)
    (case kk__law_deep => k_is)
    (case n__law_letters => k_is)
    (case l__law_letters => k_is)
    (case e__law_letters => k_is)
    (case kk__law_letters => k_is)
    (case n__law_is_letter => k_is)
    (case l__law_is_letter => k_is)
    (case e__law_is_letter => k_is)
    (case kk__law_is_letter => k_is)
    (case n__law_part => k_is)
    (case l__law_part => k_is)
    (case e__law_part => k_is)
    (case kk__law_part => k_is)
    (case n__law_spoilt => k_is)
    (case l__law_spoilt => k_is)
    (case e__law_spoilt => k_is)
    (case kk__law_spoilt => k_is)
    (case n__law_full => k_is)
    (case l__law_full => k_is)
    (case e__law_full => k_is)
    (case kk__law_full => k_is)
    (case n__law_made => k_is)
    (case l__law_made => k_is)
    (case e__law_made => k_is)
    (case kk__law_made => k_is)
    (case n__law_equals => k_is)
    (case l__law_equals => k_is)
    (case e__law_equals => k_is)
    (case kk__law_equals => k_is)
    (case n__law_lines => k_is)
    (case l__law_lines => k_is)
    (case e__law_lines => k_is)
    (case kk__law_lines => k_is)
    (case n__law_net => k_is)
    (case l__law_net => k_is)
    (case e__law_net => k_is)
    (case kk__law_net => k_is)
    (case n_law => k_is)
    (case l_law => k_is)
    (case e_law => k_is)
    (case kk_law => k_is)
    (case pg_Schedule => k_is)
    (case hd_Schedule => k_is)
    (case po_Schedule => k_is)
    (case sa_Schedule => k_is)
    (case ca_Schedule => k_is)
    (case cm_Schedule => k_is)
    (case ci_Schedule => k_is)
    (case cy_Schedule => k_is)
    (case mm_Schedule => k_is)
    (case mf_Schedule => k_is)
    (case mk_Schedule => k_is)
    (case ef_Schedule => k_is)
    (case na_part_Schedule => k_is)
    (case na_most_Schedule => k_is)
    (case na_many_Schedule => k_is)
    (case na_letters_Schedule => k_is)
    (case sb_TalkError => k_is)
    (case ty_TalkError => k_is)
    (case hx_TalkError => k_is)
    (case gx_TalkError => k_is)
    (case gg_TalkError => k_is)
    (case cx_TalkError => k_is)
    (case mx_TalkError => k_is)
    (case cix_TalkError => k_is)
    (case kx_TalkError => k_is)
    (case sb_BadSchedule => k_is)
    (case ty_BadSchedule => k_is)
    (case hx_BadSchedule => k_is)
    (case gx_BadSchedule => k_is)
    (case gg_BadSchedule => k_is)
    (case cx_BadSchedule => k_is)
    (case mx_BadSchedule => k_is)
    (case cix_BadSchedule => k_is)
    (case kx_BadSchedule => k_is)
    (case xl_BadSchedule => k_is)
    (case sxx_BadSchedule => k_is)
    (case nf_BadSchedule => k_is)
    (case ti_BadSchedule => k_is)
    (case sb_TooMany => k_is)
    (case ty_TooMany => k_is)
    (case hx_TooMany => k_is)
    (case gx_TooMany => k_is)
    (case gg_TooMany => k_is)
    (case cx_TooMany => k_is)
    (case mx_TooMany => k_is)
    (case cix_TooMany => k_is)
    (case kx_TooMany => k_is)
    (case xl_TooMany => k_is)
    (case sxx_TooMany => k_is)
    (case nf_TooMany => k_is)
    (case ti_TooMany => k_is)
    (case sb_NoNumber => k_is)
    (case ty_NoNumber => k_is)
    (case hx_NoNumber => k_is)
    (case gx_NoNumber => k_is)
    (case gg_NoNumber => k_is)
    (case cx_NoNumber => k_is)
    (case mx_NoNumber => k_is)
    (case cix_NoNumber => k_is)
    (case kx_NoNumber => k_is)
    (case sb_NoNet => k_is)
    (case ty_NoNet => k_is)
    (case hx_NoNet => k_is)
    (case gx_NoNet => k_is)
    (case gg_NoNet => k_is)
    (case cx_NoNet => k_is)
    (case mx_NoNet => k_is)
    (case cix_NoNet => k_is)
    (case kx_NoNet => k_is)
    (case sb_NoLetters => k_is)
    (case ty_NoLetters => k_is)
    (case hx_NoLetters => k_is)
    (case gx_NoLetters => k_is)
    (case gg_NoLetters => k_is)
    (case cx_NoLetters => k_is)
    (case mx_NoLetters => k_is)
    (case cix_NoLetters => k_is)
    (case kx_NoLetters => k_is)
    (case su_TalkError_BadSchedule => k_is)
    (case su_BadSchedule_BadSchedule => k_is)
    (case su_TooMany_BadSchedule => k_is)
    (case su_NoNumber_BadSchedule => k_is)
    (case su_NoNet_BadSchedule => k_is)
    (case su_NoLetters_BadSchedule => k_is)
    (case su_TalkError_TalkError => k_is)
    (case su_BadSchedule_TalkError => k_is)
    (case su_TooMany_TalkError => k_is)
    (case su_NoNumber_TalkError => k_is)
    (case su_NoNet_TalkError => k_is)
    (case su_NoLetters_TalkError => k_is)
    (case su_TalkError_TooMany => k_is)
    (case su_BadSchedule_TooMany => k_is)
    (case su_TooMany_TooMany => k_is)
    (case su_NoNumber_TooMany => k_is)
    (case su_NoNet_TooMany => k_is)
    (case su_NoLetters_TooMany => k_is)
    (case su_TalkError_ValueError => k_is)
    (case su_BadSchedule_ValueError => k_is)
    (case su_TooMany_ValueError => k_is)
    (case su_NoNumber_ValueError => k_is)
    (case su_NoNet_ValueError => k_is)
    (case su_NoLetters_ValueError => k_is)
    (case cg => k_is)
    (case ct => k_is)
    (case q_LEAST_HOUSES => k_is)
    (case q_MOST_HOUSES => k_is)
    (case q_MOST_LETTERS => k_is)
    (case q_MOST_BEAT => k_is)
    (case b_ValueError => k_is)
    (case b_abs => k_is)
    (case b_all => k_is)
    (case b_bool => k_is)
    (case b_enumerate => k_is)
    (case b_int => k_is)
    (case b_isinstance => k_is)
    (case b_len => k_is)
    (case b_list => k_is)
    (case b_max => k_is)
    (case b_min => k_is)
    (case b_range => k_is)
    (case b_str => k_is)
    (case b_tuple => k_is)
    (case b_zip => k_is)
