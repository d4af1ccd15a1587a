import PyProof.Rows.All
import Wide.All
import OpenK.AllK
import Wide.FinOn
import HandS.ForMost
import HandS.ForExc
import HandS.TryMany
import HandS.IsInst
import HandS.Zip
import HandS.Deep
import HandS.Walk
import HandS.Wide
import HandS.TupAny
import HandS.Conv
import PyProof.ListCopy
import HandS.More
import KE.GoesMore
import HandS.ExcInit
import HandS.ExcField
import HandS.ExcOwn
import HandS.WordsExc
import HandS.RaiseMore
import HandS.Small
import KE.KExcIs
import HandS.Style
import HandS.ExcIs
import HandS.Text
import PySem.Challenge.RW_turnedtalk_k11_whole_faults
set_option Elab.async false
set_option linter.all false
set_option maxRecDepth 100000
set_option maxHeartbeats 4000000
namespace FL
open PySem PySem.Spec PyProof.Rows L2

/-! ## data -/
inductive D where
  | non | bl (b : Bool) | int (i : Int) | str (s : Str)
  | tup (xs : List D) | lst (xs : List D)
  | ins (c : Nat) (ns : List Str) (xs : List D)
  | scr (ns : List Int)
  | ty (n : String) | cls (c : Nat) | raw (n : Nat) | emp
structure Gm where
  K : PySem.W.Frag
  cls : Nat → Addr
  xcl : Nat → Addr
  raw : Nat → V
mutual
def Rep (g : Gm) (F : Hp) : D → V → Prop
  | .non, v => v = .non
  | .bl b, v => v = .bl b
  | .int i, v => v = .int i
  | .str s, v => v = .str s
  | .tup ds, v => ∃ a xs, v = .ref a ∧ SqT g.K F a xs ∧ RepL g F ds xs
  | .lst ds, v => ∃ a xs, v = .ref a ∧ F a = some (.lst xs) ∧ RepL g F ds xs
  | .scr ns, v => ∃ a, v = .ref a ∧ SqL g.K F a (ns.map V.int)
  | .ty n, v => v = .ty n
  | .cls c, v => v = .ref (g.cls c)
  | .ins c ns ds, v => ∃ a dx xs, v = .ref a ∧ F a = some (.ins (g.cls c) dx (ns.zip xs)) ∧ ns.length = xs.length ∧ RepL g F ds xs
  | .raw n, v => v = g.raw n
  | .emp, v => ∃ a, v = .ref a ∧ F a = some (.dK [])
def RepL (g : Gm) (F : Hp) : List D → List V → Prop
  | [], vs => vs = []
  | d :: ds, vs => ∃ x xs, vs = x :: xs ∧ Rep g F d x ∧ RepL g F ds xs
end
theorem same_t {K : PySem.W.Frag} {H H' : Hp} {a : Addr} {xs : List V} (e : Same H H') (h : SqT K H a xs) : SqT K H' a xs := by
  rcases h with (h | ⟨o, h⟩) | h
  · exact .inl (.inl (e _ _ h))
  · exact .inl (.inr ⟨o, e _ _ h⟩)
  · exact .inr h
mutual
theorem Rep.mono {g : Gm} {F F' : Hp} (s : Same F F') : ∀ {d : D} {v : V}, Rep g F d v → Rep g F' d v
  | .non, _, h => h
  | .bl _, _, h => h
  | .int _, _, h => h
  | .str _, _, h => h
  | .tup _, _, h => by
    obtain ⟨a, xs, e, q, r⟩ := h
    exact ⟨a, xs, e, same_t s q, RepL.mono s r⟩
  | .lst _, _, h => by
    obtain ⟨a, xs, e, q, r⟩ := h
    exact ⟨a, xs, e, s _ _ q, RepL.mono s r⟩
  | .scr _, _, h => by
    obtain ⟨a, e, q⟩ := h
    exact ⟨a, e, s.seq q⟩
  | .ty _, _, h => h
  | .cls _, _, h => h
  | .ins _ _ _, _, h => by
    obtain ⟨a, dx, xs, e, q, l, r⟩ := h
    exact ⟨a, dx, xs, e, s _ _ q, l, RepL.mono s r⟩
  | .raw _, _, h => h
  | .emp, _, h => by
    obtain ⟨a, e, q⟩ := h
    exact ⟨a, e, s _ _ q⟩
theorem RepL.mono {g : Gm} {F F' : Hp} (s : Same F F') : ∀ {ds : List D} {vs : List V}, RepL g F ds vs → RepL g F' ds vs
  | [], _, h => h
  | d :: ds, _, h => by
    obtain ⟨x, xs, e, r, t⟩ := h
    exact ⟨x, xs, e, Rep.mono s r, RepL.mono s t⟩
end
section
variable {g : Gm} {F : Hp}
theorem RepL.length : ∀ {ds : List D} {vs : List V}, RepL g F ds vs → ds.length = vs.length
  | [], _, h => by cases (show _ = [] from h); rfl
  | d :: ds, _, h => by
    obtain ⟨x, xs, rfl, _, t⟩ := h
    simp [RepL.length t]
theorem RepL.nil : RepL g F [] [] := rfl
theorem RepL.cons {d : D} {ds : List D} {v : V} {vs : List V} (h : Rep g F d v) (t : RepL g F ds vs) : RepL g F (d :: ds) (v :: vs) := ⟨v, vs, rfl, h, t⟩
theorem RepL.get : ∀ {ds : List D} {vs : List V} {i : Nat} {d : D}, RepL g F ds vs → ds[i]? = some d → ∃ v, vs[i]? = some v ∧ Rep g F d v
  | [], _, _, _, _, e => by simp at e
  | d :: ds, _, 0, _, h, e => by
    obtain ⟨x, xs, rfl, r, _⟩ := h
    simp at e; subst e
    exact ⟨x, rfl, r⟩
  | d :: ds, _, i + 1, _, h, e => by
    obtain ⟨x, xs, rfl, _, t⟩ := h
    obtain ⟨v, a, b⟩ := RepL.get (i := i) t (by simpa using e)
    exact ⟨v, by simpa using a, b⟩
theorem RepL.append : ∀ {ds es : List D} {vs ws : List V}, RepL g F ds vs → RepL g F es ws → RepL g F (ds ++ es) (vs ++ ws)
  | [], _, _, _, h, k => by cases (show _ = [] from h); exact k
  | d :: ds, _, _, _, h, k => by
    obtain ⟨x, xs, rfl, r, t⟩ := h
    exact ⟨x, _, rfl, r, RepL.append t k⟩
theorem RepL.set : ∀ {ds : List D} {vs : List V} {i : Nat} {d : D} {v : V}, RepL g F ds vs → Rep g F d v → RepL g F (ds.set i d) (vs.set i v)
  | [], _, _, _, _, h, _ => by cases (show _ = [] from h); exact rfl
  | _ :: ds, _, 0, _, _, h, k => by
    obtain ⟨x, xs, rfl, r, t⟩ := h
    exact ⟨_, xs, rfl, k, t⟩
  | _ :: ds, _, i + 1, _, _, h, k => by
    obtain ⟨x, xs, rfl, r, t⟩ := h
    exact ⟨x, _, rfl, r, RepL.set t k⟩
theorem RepL.take : ∀ {ds : List D} {vs : List V} (n : Nat), RepL g F ds vs → RepL g F (ds.take n) (vs.take n)
  | _, _, 0, _ => rfl
  | [], _, n + 1, h => by cases (show _ = [] from h); exact rfl
  | _ :: ds, _, n + 1, h => by
    obtain ⟨x, xs, rfl, r, t⟩ := h
    exact ⟨x, _, rfl, r, RepL.take n t⟩
theorem RepL.drop : ∀ {ds : List D} {vs : List V} (n : Nat), RepL g F ds vs → RepL g F (ds.drop n) (vs.drop n)
  | _, _, 0, h => h
  | [], _, n + 1, h => by cases (show _ = [] from h); exact rfl
  | _ :: ds, _, n + 1, h => by
    obtain ⟨x, xs, rfl, r, t⟩ := h
    exact RepL.drop n t
theorem RepL.rep {ds : List D} {vs : List V} (h : RepL g F ds vs) : ∀ k : Nat, RepL g F (List.replicate k ds).flatten (List.replicate k vs).flatten
  | 0 => rfl
  | k + 1 => by
    rw [List.replicate_succ, List.replicate_succ, List.flatten_cons, List.flatten_cons]
    exact h.append (RepL.rep h k)
theorem RepL.dropLast : ∀ {ds : List D} {vs : List V}, RepL g F ds vs → RepL g F ds.dropLast vs.dropLast := fun {ds vs} h => by
  rw [List.dropLast_eq_take, List.dropLast_eq_take, h.length]
  exact h.take _
theorem RepL.reverse : ∀ {ds : List D} {vs : List V}, RepL g F ds vs → RepL g F ds.reverse vs.reverse
  | [], _, h => by cases (show _ = [] from h); exact rfl
  | d :: ds, _, h => by
    obtain ⟨x, xs, rfl, r, t⟩ := h
    rw [List.reverse_cons, List.reverse_cons]
    exact (RepL.reverse t).append ⟨_, _, rfl, r, rfl⟩
theorem RepL.ints : ∀ ns : List Int, RepL g F (ns.map D.int) (ns.map V.int)
  | [] => rfl
  | n :: ns => ⟨_, _, rfl, rfl, RepL.ints ns⟩
end

/-! ## slots -/
inductive Sl where
  | no | fz (d : D) | own (d : D) | bor (k : Nat) (d : D)
def Sl.cell : Sl → Option D
  | .own d => some d
  | .bor _ d => some d
  | _ => none
def Sl.put : Sl → D → Sl
  | .own _, d => .own d
  | .bor k _, d => .bor k d
  | s, _ => s
def Sl.cont : Sl → Option D
  | .fz d => some d
  | .own d => some d
  | .bor _ d => some d
  | .no => none
abbrev Nv := List Sl
/-- what stands in an owned cell -/
def OwnO (g : Gm) (F : Hp) : D → HO → Prop
  | .lst ds, o => ∃ xs, o = .lst xs ∧ RepL g F ds xs
  | .ins c ns ds, o => ∃ dx xs, o = .ins (g.cls c) dx (ns.zip xs) ∧ ns.length = xs.length ∧ RepL g F ds xs
  | _, _ => False
def OwnAt (g : Gm) (G F H : Hp) (p : Addr) (d : D) : Prop := F p = none ∧ G p = none ∧ ∃ o, H p = some o ∧ OwnO g F d o
theorem OwnO.mono {g : Gm} {F F' : Hp} (s : Same F F') {d : D} {o : HO} (h : OwnO g F d o) : OwnO g F' d o := by
  cases d with
  | lst ds => obtain ⟨xs, e, r⟩ := h; exact ⟨xs, e, r.mono s⟩
  | ins c ns ds => obtain ⟨dx, xs, e, l, r⟩ := h; exact ⟨dx, xs, e, l, r.mono s⟩
  | _ => exact h.elim
theorem OwnO.rep {g : Gm} {F : Hp} {d : D} {o : HO} {p : Addr} (h : OwnO g F d o) (q : F p = none) : Rep g (upd F p o) d (.ref p) := by
  have s : Same F (upd F p o) := fun b u e => by rw [upd_ne (ne_of_none e q)]; exact e
  cases d with
  | lst ds => obtain ⟨xs, rfl, r⟩ := h; exact ⟨p, xs, rfl, upd_same, r.mono s⟩
  | ins c ns ds => obtain ⟨dx, xs, rfl, l, r⟩ := h; exact ⟨p, dx, xs, rfl, upd_same, l, r.mono s⟩
  | _ => exact h.elim
theorem Same.new {H : Hp} {p : Addr} {o : HO} (h : H p = none) : Same H (upd H p o) := fun b u e => by rw [upd_ne (ne_of_none e h)]; exact e

/-- what a slot's new content asks -/
def SlNew (g : Gm) (ρ : Nat → Addr) (G F H : Hp) (p0 : Addr) : Sl → Option (Option V) → Prop
  | .no, _ => True
  | .fz d, x => ∃ v, x = some (some v) ∧ Rep g F d v
  | .own d, x => x = some (some (.ref p0)) ∧ OwnAt g G F H p0 d
  | .bor k d, x => ρ k = p0 ∧ x = some (some (.ref p0)) ∧ OwnAt g G F H p0 d
structure StOk (g : Gm) (ρ : Nat → Addr) (G : Hp) (E : Nv) (F : Hp) (σ : L2.St) (H : Hp) : Prop where
  sf : Same F H
  sg : Same G H
  dj : ∀ q o, G q = some o → F q = none
  len : E.length = σ.length
  fz : ∀ (i : Nat) d, E[i]? = some (.fz d) → ∃ v, σ[i]? = some (some v) ∧ Rep g F d v
  ow : ∃ ps : Nat → Addr, (∀ (i : Nat) s d, E[i]? = some s → s.cell = some d → σ[i]? = some (some (.ref (ps i))) ∧ OwnAt g G F H (ps i) d) ∧
    (∀ (i k : Nat) d, E[i]? = some (.bor k d) → ps i = ρ k) ∧
    (∀ (i j : Nat) s t d e, E[i]? = some s → s.cell = some d → E[j]? = some t → t.cell = some e → ps i = ps j → i = j)
section
variable {g : Gm} {ρ : Nat → Addr} {G G' F F' H H' : Hp} {E : Nv} {σ σ' : L2.St} {i : Nat} {p : Addr} {o : HO} {d : D} {s : Sl}
/-- all is kept but where slot i is -/
theorem StOk.slot (old : StOk g ρ G E F σ H) (hF : Same F F') (sf : Same F' H') (sg : Same G' H') (dj : ∀ q o, G' q = some o → F' q = none) (hl : σ'.length = σ.length) (hσ : ∀ j, j ≠ i → σ'[j]? = σ[j]?) (p0 : Addr)
    (keep : ∀ (j : Nat) t d p, j ≠ i → E[j]? = some t → t.cell = some d → σ[j]? = some (some (.ref p)) → OwnAt g G F H p d →
      (∀ t' d' p', E[i]? = some t' → t'.cell = some d' → σ[i]? = some (some (.ref p')) → p ≠ p') → OwnAt g G' F' H' p d ∧ (s.cell ≠ none → p ≠ p0))
    (new : i < E.length → SlNew g ρ G' F' H' p0 s σ'[i]?) : StOk g ρ G' (E.set i s) F' σ' H' := by
  obtain ⟨ps, h1, h2, h3⟩ := old.ow
  have dist : ∀ (j : Nat) t d, j ≠ i → E[j]? = some t → t.cell = some d → ∀ t' d' p', E[i]? = some t' → t'.cell = some d' → σ[i]? = some (some (.ref p')) → ps j ≠ p' := by
    intro j t d hj e1 e2 t' d' p' e3 e4 e5 q
    obtain ⟨e6, _⟩ := h1 i t' d' e3 e4
    rw [e5] at e6
    have e7 : p' = ps i := by injection (Option.some.inj (Option.some.inj e6))
    exact hj (h3 j i t t' d d' e1 e2 e3 e4 (q.trans e7))
  have kp : ∀ (j : Nat) t d, j ≠ i → E[j]? = some t → t.cell = some d → OwnAt g G' F' H' (ps j) d ∧ (s.cell ≠ none → ps j ≠ p0) := fun j t d hj e1 e2 =>
    keep j t d (ps j) hj e1 e2 (h1 j t d e1 e2).1 (h1 j t d e1 e2).2 (dist j t d hj e1 e2)
  have lt : ∀ {j : Nat} {t : Sl}, (E.set i s)[j]? = some t → j < E.length := fun {j t} e => by
    have := (List.getElem?_eq_some_iff.mp e).1
    simpa using this
  have at_i : ∀ {t : Sl}, (E.set i s)[i]? = some t → t = s := fun {t} e => by
    have hi := lt e
    rw [List.getElem?_set_self hi] at e
    exact (Option.some.inj e).symm
  refine ⟨sf, sg, dj, by rw [List.length_set, hl]; exact old.len, fun j d e => ?_, fun j => if j = i then p0 else ps j, fun j t d e c => ?_, fun j k d e => ?_, fun j k t u d e e1 c1 e2 c2 q => ?_⟩
  · by_cases hj : j = i
    · subst hj
      have hi := lt e
      have hs := at_i e
      have n := new hi
      subst hs
      exact n
    · rw [List.getElem?_set_ne (Ne.symm hj)] at e
      obtain ⟨v, a, b⟩ := old.fz j d e
      exact ⟨v, by rw [hσ j hj]; exact a, b.mono hF⟩
  · by_cases hj : j = i
    · subst hj
      have n := new (lt e)
      have hs := at_i e
      subst hs
      simp only [if_true]
      cases t with
      | no => cases c
      | fz _ => cases c
      | own x => cases c; exact n
      | bor k x => cases c; exact n.2
    · rw [List.getElem?_set_ne (Ne.symm hj)] at e
      simp only [if_neg hj]
      exact ⟨by rw [hσ j hj]; exact (h1 j t d e c).1, (kp j t d hj e c).1⟩
  · by_cases hj : j = i
    · subst hj
      have n := new (lt e)
      have hs := at_i e
      subst hs
      simp only [if_true]
      exact n.1.symm
    · rw [List.getElem?_set_ne (Ne.symm hj)] at e
      simp only [if_neg hj]
      exact h2 j k d e
  · by_cases hj : j = i <;> by_cases hk : k = i
    · rw [hj, hk]
    · rw [List.getElem?_set_ne (Ne.symm hk)] at e2
      subst hj
      have hs := at_i e1
      subst hs
      simp only [if_true, if_neg hk] at q
      exact absurd q.symm ((kp k u e hk e2 c2).2 (by rw [c1]; simp))
    · rw [List.getElem?_set_ne (Ne.symm hj)] at e1
      subst hk
      have hs := at_i e2
      subst hs
      simp only [if_true, if_neg hj] at q
      exact absurd q ((kp j t d hj e1 c1).2 (by rw [c2]; simp))
    · rw [List.getElem?_set_ne (Ne.symm hj)] at e1
      rw [List.getElem?_set_ne (Ne.symm hk)] at e2
      simp only [if_neg hj, if_neg hk] at q
      exact h3 j k t u d e e1 c1 e2 c2 q
/-- nothing of the slots changes -/
theorem StOk.same (old : StOk g ρ G E F σ H) (hF : Same F F') (sf : Same F' H') (sg : Same G' H') (dj : ∀ q o, G' q = some o → F' q = none)
    (keep : ∀ p d, OwnAt g G F H p d → OwnAt g G' F' H' p d) : StOk g ρ G' E F' σ H' := by
  obtain ⟨ps, h1, h2, h3⟩ := old.ow
  exact ⟨sf, sg, dj, old.len, fun i d e => let ⟨v, a, b⟩ := old.fz i d e; ⟨v, a, b.mono hF⟩, ps, fun i s d e c => ⟨(h1 i s d e c).1, keep _ _ (h1 i s d e c).2⟩, h2, h3⟩
theorem StOk.fF (st : StOk g ρ G E F σ H) (h : H p = none) : F p = none := st.sf.free h
theorem StOk.fG (st : StOk g ρ G E F σ H) (h : H p = none) : G p = none := st.sg.free h
/-- a new frozen object -/
theorem StOk.grow (st : StOk g ρ G E F σ H) (h : H p = none) (o : HO) : StOk g ρ G E (upd F p o) σ (upd H p o) := by
  have f := st.fF h
  have gn := st.fG h
  refine st.same (Same.new f) (fun b u e => ?_) (fun b u e => ?_) (fun q u e => ?_) fun q d ⟨a, b, u, c, e⟩ => ?_
  · by_cases hb : b = p
    · subst hb; rw [upd_same] at e ⊢; exact e
    · rw [upd_ne hb] at e ⊢; exact st.sf _ _ e
  · rw [upd_ne (ne_of_none e gn)]; exact st.sg _ _ e
  · rw [upd_ne (ne_of_none e gn)]; exact st.dj _ _ e
  · have n : q ≠ p := ne_of_none c h
    exact ⟨by rw [upd_ne n]; exact a, b, u, by rw [upd_ne n]; exact c, e.mono (Same.new f)⟩
/-- a new object of nobody -/
theorem StOk.temp (st : StOk g ρ G E F σ H) (h : H p = none) (o : HO) : StOk g ρ (upd G p o) E F σ (upd H p o) := by
  have f := st.fF h
  have gn := st.fG h
  refine st.same (Same.refl F) (fun b u e => ?_) (fun b u e => ?_) (fun q u e => ?_) fun q d ⟨a, b, u, c, e⟩ => ?_
  · rw [upd_ne (ne_of_none e f)]; exact st.sf _ _ e
  · by_cases hb : b = p
    · subst hb; rw [upd_same] at e ⊢; exact e
    · rw [upd_ne hb] at e ⊢; exact st.sg _ _ e
  · by_cases hb : q = p
    · subst hb; exact f
    · rw [upd_ne hb] at e; exact st.dj _ _ e
  · have n : q ≠ p := ne_of_none c h
    exact ⟨a, by rw [upd_ne n]; exact b, u, by rw [upd_ne n]; exact c, e⟩
/-- nobody's object is frozen -/
theorem StOk.freeze (st : StOk g ρ (upd G p o) E F σ H) (gn : G p = none) : StOk g ρ G E (upd F p o) σ H := by
  have f : F p = none := st.dj p o upd_same
  have hp : H p = some o := st.sg p o upd_same
  refine st.same (Same.new f) (fun b u e => ?_) (fun b u e => ?_) (fun q u e => ?_) fun q d ⟨a, b, u, c, e⟩ => ?_
  · by_cases hb : b = p
    · subst hb; rw [upd_same] at e; rw [← e]; exact hp
    · rw [upd_ne hb] at e; exact st.sf _ _ e
  · exact st.sg _ _ (by rw [upd_ne (ne_of_none e gn)]; exact e)
  · rw [upd_ne (ne_of_none e gn)]; exact st.dj q u (by rw [upd_ne (ne_of_none e gn)]; exact e)
  · have n : q ≠ p := fun z => by rw [z, upd_same] at b; cases b
    exact ⟨by rw [upd_ne n]; exact a, by rw [upd_ne n] at b; exact b, u, c, e.mono (Same.new f)⟩
/-- nobody's object, forgotten -/
theorem StOk.untemp (st : StOk g ρ (upd G p o) E F σ H) (gn : G p = none) : StOk g ρ G E F σ H := by
  refine st.same (Same.refl F) st.sf (fun b u e => st.sg _ _ (by rw [upd_ne (ne_of_none e gn)]; exact e)) (fun q u e => st.dj q u (by rw [upd_ne (ne_of_none e gn)]; exact e)) fun q d ⟨a, b, u, c, e⟩ => ?_
  have n : q ≠ p := fun z => by rw [z, upd_same] at b; cases b
  exact ⟨a, by rw [upd_ne n] at b; exact b, u, c, e⟩
/-- nobody's object is written -/
theorem StOk.rewrite {o' : HO} (st : StOk g ρ (upd G p o) E F σ H) (gn : G p = none) : StOk g ρ (upd G p o') E F σ (upd H p o') := by
  have f : F p = none := st.dj p o upd_same
  refine st.same (Same.refl F) (fun b u e => ?_) (fun b u e => ?_) (fun q u e => ?_) fun q d ⟨a, b, u, c, e⟩ => ?_
  · rw [upd_ne (ne_of_none e f)]; exact st.sf _ _ e
  · by_cases hb : b = p
    · subst hb; rw [upd_same] at e ⊢; exact e
    · rw [upd_ne hb] at e ⊢; exact st.sg _ _ (by rw [upd_ne hb]; exact e)
  · by_cases hb : q = p
    · subst hb; exact f
    · rw [upd_ne hb] at e; exact st.dj q u (by rw [upd_ne hb]; exact e)
  · have n : q ≠ p := fun z => by rw [z, upd_same] at b; cases b
    exact ⟨a, by rw [upd_ne n] at b ⊢; exact b, u, by rw [upd_ne n]; exact c, e⟩
/-- nobody's object comes to a slot -/
theorem StOk.take (st : StOk g ρ (upd G p o) E F σ H) (gn : G p = none) (ow : OwnO g F d o) : StOk g ρ G (E.set i (.own d)) F (σ.set i (some (.ref p))) H := by
  have f : F p = none := st.dj p o upd_same
  have hp : H p = some o := st.sg p o upd_same
  refine st.slot (Same.refl F) st.sf (fun b u e => st.sg _ _ (by rw [upd_ne (ne_of_none e gn)]; exact e)) (fun q u e => st.dj q u (by rw [upd_ne (ne_of_none e gn)]; exact e)) (by simp) (fun j hj => List.getElem?_set_ne (Ne.symm hj)) p (fun j t d q hj e1 e2 e3 ⟨a, b, u, c, e⟩ _ => ?_) fun hi => ⟨?_, f, gn, o, hp, ow⟩
  · have n : q ≠ p := fun z => by rw [z, upd_same] at b; cases b
    exact ⟨⟨a, by rw [upd_ne n] at b; exact b, u, c, e⟩, fun _ => n⟩
  · exact List.getElem?_set_self (by rw [← st.len]; exact hi)
/-- a frozen thing comes to a slot -/
theorem StOk.store {v : V} (st : StOk g ρ G E F σ H) (r : Rep g F d v) : StOk g ρ G (E.set i (.fz d)) F (σ.set i (some v)) H := by
  refine st.slot (Same.refl F) st.sf st.sg st.dj (by simp) (fun j hj => List.getElem?_set_ne (Ne.symm hj)) 0 (fun j t d q hj e1 e2 e3 ow _ => ⟨ow, fun z => absurd rfl z⟩) fun hi => ⟨v, ?_, r⟩
  exact List.getElem?_set_self (by rw [← st.len]; exact hi)
/-- a slot forgotten -/
theorem StOk.drop (st : StOk g ρ G E F σ H) (i : Nat) : StOk g ρ G (E.set i .no) F σ H :=
  st.slot (Same.refl F) st.sf st.sg st.dj rfl (fun _ _ => rfl) 0 (fun j t d q hj e1 e2 e3 ow _ => ⟨ow, fun z => absurd rfl z⟩) fun _ => trivial
/-- where a cell is -/
theorem StOk.at (st : StOk g ρ G E F σ H) (e : E[i]? = some s) (c : s.cell = some d) : ∃ p, σ[i]? = some (some (.ref p)) ∧ OwnAt g G F H p d := by
  obtain ⟨ps, h1, h2, h3⟩ := st.ow
  exact ⟨ps i, h1 i s d e c⟩
/-- an owned slot is given up, its object nobody's -/
theorem StOk.give (st : StOk g ρ G E F σ H) (e : E[i]? = some s) (c : s.cell = some d) (hσ : σ[i]? = some (some (.ref p))) (hp : H p = some o) : StOk g ρ (upd G p o) (E.set i .no) F σ H ∧ G p = none ∧ OwnO g F d o := by
  obtain ⟨p', e1, f, gn, u, hu, ow⟩ := st.at e c
  rw [hσ] at e1
  have : p = p' := by injection (Option.some.inj (Option.some.inj e1))
  subst this
  rw [hp] at hu; cases hu
  refine ⟨st.slot (Same.refl F) st.sf (fun b u e => ?_) (fun q u e => ?_) rfl (fun _ _ => rfl) 0 (fun j t d q hj e1 e2 e3 ow' ne => ⟨?_, fun z => absurd rfl z⟩) fun _ => trivial, gn, ow⟩
  · by_cases hb : b = p
    · subst hb; rw [upd_same] at e; rw [← e]; exact hp
    · rw [upd_ne hb] at e; exact st.sg _ _ e
  · by_cases hb : q = p
    · subst hb; exact f
    · rw [upd_ne hb] at e; exact st.dj _ _ e
  · have n : q ≠ p := ne _ _ p e c hσ
    obtain ⟨a, b, r⟩ := ow'
    exact ⟨a, by rw [upd_ne n]; exact b, r⟩
/-- an owned slot frozen -/
theorem StOk.demote (st : StOk g ρ G E F σ H) (e : E[i]? = some (.own d)) : ∃ v F', σ[i]? = some (some v) ∧ Same F F' ∧ Rep g F' d v ∧ StOk g ρ G (E.set i (.fz d)) F' σ H := by
  obtain ⟨p, e1, f, gn, o, hp, ow⟩ := st.at e rfl
  obtain ⟨st1, _, _⟩ := st.give e rfl e1 hp
  have st2 := st1.freeze gn
  have r : Rep g (upd F p o) d (.ref p) := ow.rep f
  refine ⟨.ref p, upd F p o, e1, Same.new f, r, ?_⟩
  have st3 := st2.store (i := i) r
  have hi : i < σ.length := (List.getElem?_eq_some_iff.mp e1).1
  have e2 : σ.set i (some (.ref p)) = σ := by
    apply List.ext_getElem?
    intro j
    by_cases hj : i = j
    · subst hj; rw [List.getElem?_set_self hi, e1]
    · rw [List.getElem?_set_ne hj]
  rw [e2, List.set_set] at st3
  exact st3
/-- an owned cell is written -/
theorem StOk.write {o' : HO} {d' : D} (st : StOk g ρ G E F σ H) (e : E[i]? = some s) (c : s.cell = some d) (hσ : σ[i]? = some (some (.ref p))) (ow' : OwnO g F d' o') : StOk g ρ G (E.set i (s.put d')) F σ (upd H p o') := by
  obtain ⟨p', e1, f, gn, o, hp, ow⟩ := st.at e c
  rw [hσ] at e1
  have : p = p' := by injection (Option.some.inj (Option.some.inj e1))
  subst this
  have bor : ∀ k x, s = .bor k x → ρ k = p := by
    intro k x z
    obtain ⟨ps, h1, h2, h3⟩ := st.ow
    have q := (h1 i s d e c).1
    rw [hσ] at q
    have q2 : p = ps i := by injection (Option.some.inj (Option.some.inj q))
    rw [q2, h2 i k x (by rw [← z]; exact e)]
  refine st.slot (Same.refl F) (fun b u e => ?_) (fun b u e => ?_) st.dj rfl (fun _ _ => rfl) p (fun j t d q hj e1 e2 e3 ow' ne => ?_) fun hi => ?_
  · rw [upd_ne (ne_of_none e f)]; exact st.sf _ _ e
  · rw [upd_ne (ne_of_none e gn)]; exact st.sg _ _ e
  · have n : q ≠ p := ne _ _ p e c hσ
    obtain ⟨a, b, u, x, r⟩ := ow'
    exact ⟨⟨a, b, u, by rw [upd_ne n]; exact x, r⟩, fun _ => n⟩
  · cases s with
    | no => cases c
    | fz _ => cases c
    | own x => exact ⟨hσ, f, gn, o', upd_same, ow'⟩
    | bor k x => exact ⟨bor k x rfl, hσ, f, gn, o', upd_same, ow'⟩
/-- other slots: kept, forgotten, or frozen things -/
theorem StOk.reslot {E' : Nv} (st : StOk g ρ G E F σ H) (hl : E'.length = σ'.length)
    (h : ∀ (i : Nat) s, E'[i]? = some s → (E[i]? = some s ∧ σ'[i]? = σ[i]?) ∨ s = .no ∨ ∃ d v, s = .fz d ∧ σ'[i]? = some (some v) ∧ Rep g F d v) : StOk g ρ G E' F σ' H := by
  obtain ⟨ps, h1, h2, h3⟩ := st.ow
  have cellE : ∀ {i : Nat} {s : Sl} {d : D}, E'[i]? = some s → s.cell = some d → E[i]? = some s ∧ σ'[i]? = σ[i]? := fun {i s d} e c => by
    rcases h i s e with z | z | ⟨x, v, z, _⟩
    · exact z
    · rw [z] at c; cases c
    · rw [z] at c; cases c
  refine ⟨st.sf, st.sg, st.dj, hl, fun i d e => ?_, ps, fun i s d e c => ?_, fun i k d e => h2 i k d (cellE (d := d) e rfl).1, fun i j s t d e e1 c1 e2 c2 q => h3 i j s t d e (cellE e1 c1).1 c1 (cellE e2 c2).1 c2 q⟩
  · rcases h i _ e with ⟨z, y⟩ | z | ⟨x, v, z, y, r⟩
    · obtain ⟨v, a, b⟩ := st.fz i d z
      exact ⟨v, by rw [y]; exact a, b⟩
    · cases z
    · cases z; exact ⟨v, y, r⟩
  · obtain ⟨a, b⟩ := cellE e c
    rw [b]
    exact h1 i s d a c
/-- a slot set to what it is -/
theorem StOk.len_lt (st : StOk g ρ G E F σ H) (e : E[i]? = some s) : i < σ.length := by
  rw [← st.len]; exact (List.getElem?_eq_some_iff.mp e).1
end
end FL

namespace FL
open PySem PySem.Spec PyProof.Rows L2

/-! ## outcomes -/
inductive R (α : Type) where
  | val (a : α) (E : Nv) | exc (c : Nat) (fs : Option (Str × D)) (E : Nv) | bad
def R.bind {α β : Type} : R α → (α → Nv → R β) → R β
  | .val a E, k => k a E
  | .exc c f E, _ => .exc c f E
  | .bad, _ => .bad
theorem R.bind_val {α β : Type} {a : α} {E : Nv} {k : α → Nv → R β} : (R.val a E).bind k = k a E := rfl
theorem R.bind_exc {α β : Type} {c : Nat} {f : Option (Str × D)} {E : Nv} {k : α → Nv → R β} : (R.exc c f E).bind k = R.exc c f E := rfl
theorem R.bind_bad {α β : Type} {k : α → Nv → R β} : (R.bad : R α).bind k = R.bad := rfl
/-- some or bad -/
def R.some {α : Type} : Option α → Nv → R α
  | .some a, E => .val a E
  | .none, _ => .bad
/-- how a statement ends -/
inductive Fl where
  | nx | rt (d : D) | rn (d : D) | bk | ct
/-- an operand: a value, or a slot that is only looked at (or lent) -/
inductive Ar where
  | v (d : D) | pk (i : Nat)
def Ar.get (E : Nv) : Ar → Option D
  | .v d => some d
  | .pk i => match E[i]? with
    | some s => s.cont
    | none => none
def XRep (g : Gm) (F : Hp) : Option (Str × D) → Option Addr → Prop
  | none, d => d = none
  | some (n, x), d => ∃ a v, d = some a ∧ F a = some (.xd [(n, v)]) ∧ Rep g F x v
theorem XRep.mono {g : Gm} {F F' : Hp} (s : Same F F') : ∀ {f : Option (Str × D)} {d : Option Addr}, XRep g F f d → XRep g F' f d
  | none, _, h => h
  | some (n, x), _, ⟨a, v, e, q, r⟩ => ⟨a, v, e, s _ _ q, r.mono s⟩
def ArOk (g : Gm) (F : Hp) (σ : L2.St) : Ar → V → Prop
  | .v d, x => Rep g F d x
  | .pk i, x => σ[i]? = some (some x)
theorem ArOk.mono {g : Gm} {F F' : Hp} {σ : L2.St} (s : Same F F') : ∀ {a : Ar} {x : V}, ArOk g F σ a x → ArOk g F' σ a x
  | .v _, _, h => Rep.mono s h
  | .pk _, _, h => h
def ArsOk (g : Gm) (F : Hp) (σ : L2.St) : List Ar → List V → Prop
  | [], vs => vs = []
  | a :: as, vs => ∃ x xs, vs = x :: xs ∧ ArOk g F σ a x ∧ ArsOk g F σ as xs
theorem ArsOk.mono {g : Gm} {F F' : Hp} {σ : L2.St} (s : Same F F') : ∀ {as : List Ar} {xs : List V}, ArsOk g F σ as xs → ArsOk g F' σ as xs
  | [], _, h => h
  | a :: as, _, ⟨x, xs, e, r, t⟩ => ⟨x, xs, e, r.mono s, ArsOk.mono s t⟩
theorem ArsOk.length {g : Gm} {F : Hp} {σ : L2.St} : ∀ {as : List Ar} {xs : List V}, ArsOk g F σ as xs → as.length = xs.length
  | [], _, h => by cases (show _ = [] from h); rfl
  | a :: as, _, ⟨x, xs, e, r, t⟩ => by subst e; simp [ArsOk.length t]

section
variable {g : Gm} {F : Hp} {σ : L2.St}
/-- operands given as values -/
def valsOf : List Ar → Option (List D)
  | [] => some []
  | .v d :: r => match valsOf r with
    | some ds => some (d :: ds)
    | none => none
  | .pk _ :: _ => none
theorem valsOf_ok : ∀ {as : List Ar} {ds : List D} {vs : List V}, ArsOk g F σ as vs → valsOf as = some ds → RepL g F ds vs
  | [], _, _, h, e => by cases (show _ = [] from h); cases e; exact rfl
  | .v d :: r, ds, _, ⟨x, xs, rfl, q, t⟩, e => by
    unfold valsOf at e
    cases z : valsOf r with
    | none => simp [z] at e
    | some ds' =>
      simp only [z, Option.some.injEq] at e
      subst e
      exact ⟨x, xs, rfl, q, valsOf_ok t z⟩
  | .pk _ :: _, _, _, _, e => nomatch e
end
/-! ## readings -/
section
variable (g : Gm) (W : WX)
def postX (ρ : Nat → Addr) (G F : Hp) (σ : L2.St) (c : Nat) (fs : Option (Str × D)) (E' : Nv) : Prop :=
  ∀ dx F' H', StOk g ρ G E' F' σ H' → Same F F' → XRep g F' fs dx → W (.ref (g.xcl c)) dx σ H'
def post {α β : Type} (rel : Hp → L2.St → α → β → Prop) (ρ : Nat → Addr) (G F : Hp) (σ : L2.St) (Q : β → Hp → Prop) : R α → Prop
  | .val a E' => ∀ b F' H', StOk g ρ G E' F' σ H' → Same F F' → rel F' σ a b → Q b H'
  | .exc c fs E' => postX g W ρ G F σ c fs E'
  | .bad => False
def tG {α β : Type} (rel : Hp → L2.St → α → β → Prop) (f : Nv → R α) : L2.St → Hp → (β → Hp → Prop) → Prop := fun σ H Q =>
  ∃ ρ G E F, StOk g ρ G E F σ H ∧ post g W rel ρ G F σ Q (f E)
def postS (ρ : Nat → Addr) (G F : Hp) (D : Ends) : R Fl → Prop
  | .val .nx E' => ∀ σ' F' H', StOk g ρ G E' F' σ' H' → Same F F' → D.nx σ' H'
  | .val .bk E' => ∀ σ' F' H', StOk g ρ G E' F' σ' H' → Same F F' → D.bk σ' H'
  | .val .ct E' => ∀ σ' F' H', StOk g ρ G E' F' σ' H' → Same F F' → D.ct σ' H'
  | .val (.rt d) E' => ∀ v σ' F' H', StOk g ρ G E' F' σ' H' → Same F F' → Rep g F' d v → D.rt v H'
  | .val (.rn d) E' => ∀ p o σ' F' H', StOk g ρ (upd G p o) E' F' σ' H' → G p = none → OwnO g F' d o → Same F F' → D.rt (.ref p) H'
  | .exc c fs E' => ∀ dx σ' F' H', StOk g ρ G E' F' σ' H' → Same F F' → XRep g F' fs dx → W (.ref (g.xcl c)) dx σ' H'
  | .bad => False
def tS (s : Nv → R Fl) : TS := fun D σ H => ∃ ρ G E F, StOk g ρ G E F σ H ∧ postS g W ρ G F D (s E)
/-- a new owned object -/
def postN (ρ : Nat → Addr) (G F : Hp) (σ : L2.St) (Q : VK) : R D → Prop
  | .val d E' => ∀ p o F' H', StOk g ρ (upd G p o) E' F' σ H' → G p = none → OwnO g F' d o → Same F F' → Q (.ref p) H'
  | .exc c fs E' => postX g W ρ G F σ c fs E'
  | .bad => False
def tN (f : Nv → R D) : TE := fun σ H Q => ∃ ρ G E F, StOk g ρ G E F σ H ∧ postN g W ρ G F σ Q (f E)
abbrev relD : Hp → L2.St → D → V → Prop := fun F _ d v => Rep g F d v
abbrev relB : Hp → L2.St → Bool → Bool → Prop := fun _ _ b c => b = c
abbrev relA : Hp → L2.St → Ar → V → Prop := fun F σ a v => ArOk g F σ a v
abbrev relAs : Hp → L2.St → List Ar → List V → Prop := fun F σ a v => ArsOk g F σ a v
end
/-- an expression; a test; an operand; operands; a new object; a statement -/
abbrev FE (X : Cx) (g : Gm) (W : WX) (e : Expr) (f : Nv → R D) : Prop := PE X e (tG g W (relD g) f)
abbrev FT (X : Cx) (g : Gm) (W : WX) (e : Expr) (f : Nv → R Bool) : Prop := PT X e (tG g W relB f)
abbrev FO (X : Cx) (g : Gm) (W : WX) (e : Expr) (f : Nv → R Ar) : Prop := PE X e (tG g W (relA g) f)
abbrev FA (X : Cx) (g : Gm) (W : WX) (es : List Expr) (f : Nv → R (List Ar)) : Prop := PA X es (tG g W (relAs g) f)
abbrev FN (X : Cx) (g : Gm) (W : WX) (e : Expr) (f : Nv → R D) : Prop := PE X e (tN g W f)
abbrev FS (X : Cx) (g : Gm) (W : WX) (st : Stmt) (s : Nv → R Fl) : Prop := PS X st (tS g W s)
abbrev FSs (X : Cx) (g : Gm) (W : WX) (st : List Stmt) (s : Nv → R Fl) : Prop := PSs X st (tS g W s)

theorem peImp {X : Cx} {e : Expr} {t t' : TE} (h : PE X e t) (i : ∀ σ H Q, t' σ H Q → t σ H Q) : PE X e t' := ⟨fun pins s σ H Q I q => h.run pins s σ H Q I (i σ H Q q)⟩
theorem ptImp {X : Cx} {e : Expr} {t t' : TT} (h : PT X e t) (i : ∀ σ H Q, t' σ H Q → t σ H Q) : PT X e t' := ⟨fun pins s σ H Q I q => h.run pins s σ H Q I (i σ H Q q)⟩
theorem pwImp {X : Cx} {e : Expr} {t t' : TT} (h : PW X e t) (i : ∀ σ H Q, t' σ H Q → t σ H Q) : PW X e t' := ⟨fun wh pins s σ H Q I q => h.run wh pins s σ H Q I (i σ H Q q)⟩
theorem paImp {X : Cx} {e : List Expr} {t t' : TA} (h : PA X e t) (i : ∀ σ H Q, t' σ H Q → t σ H Q) : PA X e t' := ⟨fun pos pins s σ H Q I q => h.run pos pins s σ H Q I (i σ H Q q)⟩
theorem psImp {X : Cx} {e : Stmt} {t t' : TS} (h : PS X e t) (i : ∀ D σ H, t' D σ H → t D σ H) : PS X e t' := ⟨fun pins s σ H D I q => h.run pins s σ H D I (i D σ H q)⟩
theorem pssImp {X : Cx} {e : List Stmt} {t t' : TS} (h : PSs X e t) (i : ∀ D σ H, t' D σ H → t D σ H) : PSs X e t' := ⟨fun pins s σ H D I q => h.run pins s σ H D I (i D σ H q)⟩

section
variable {g : Gm} {W : WX} {α β γ δ : Type} {rel : Hp → L2.St → α → β → Prop} {rel2 : Hp → L2.St → γ → δ → Prop} {ρ : Nat → Addr} {G F F1 : Hp} {E : Nv} {σ : L2.St} {H : Hp}
theorem postX.mono (s : Same F F1) {c : Nat} {fs : Option (Str × D)} {E' : Nv} (h : postX g W ρ G F σ c fs E') : postX g W ρ G F1 σ c fs E' := fun dx F' H' st q x => h dx F' H' st (s.trans q) x
theorem post.mono (s : Same F F1) {Q : β → Hp → Prop} : ∀ {r : R α}, post g W rel ρ G F σ Q r → post g W rel ρ G F1 σ Q r
  | .val _ _, h => fun b F' H' st q x => h b F' H' st (s.trans q) x
  | .exc _ _ _, h => postX.mono s h
  | .bad, h => h
theorem postN.mono (s : Same F F1) {Q : VK} : ∀ {r : R D}, postN g W ρ G F σ Q r → postN g W ρ G F1 σ Q r
  | .val _ _, h => fun p o F' H' st n ow q => h p o F' H' st n ow (s.trans q)
  | .exc _ _ _, h => postX.mono s h
  | .bad, h => h
theorem postS.mono (s : Same F F1) {D : Ends} : ∀ {r : R Fl}, postS g W ρ G F D r → postS g W ρ G F1 D r
  | .val .nx _, h => fun σ' F' H' st q => h σ' F' H' st (s.trans q)
  | .val .bk _, h => fun σ' F' H' st q => h σ' F' H' st (s.trans q)
  | .val .ct _, h => fun σ' F' H' st q => h σ' F' H' st (s.trans q)
  | .val (.rt _) _, h => fun v σ' F' H' st q r => h v σ' F' H' st (s.trans q) r
  | .val (.rn _) _, h => fun p o σ' F' H' st n ow q => h p o σ' F' H' st n ow (s.trans q)
  | .exc _ _ _, h => fun dx σ' F' H' st q x => h dx σ' F' H' st (s.trans q) x
  | .bad, h => h
/-- an expression, then the rest -/
theorem bindE {f : Nv → R α} {k : α → Nv → R γ} {Q2 : δ → Hp → Prop} {Q1 : β → Hp → Prop} (st : StOk g ρ G E F σ H) (h : post g W rel2 ρ G F σ Q2 ((f E).bind k))
    (cont : ∀ a E1 b F1 H1, StOk g ρ G E1 F1 σ H1 → Same F F1 → rel F1 σ a b → post g W rel2 ρ G F1 σ Q2 (k a E1) → Q1 b H1) : tG g W rel f σ H Q1 := by
  refine ⟨ρ, G, E, F, st, ?_⟩
  revert h
  cases f E with
  | val a E1 => exact fun h b F' H' st' s r => cont a E1 b F' H' st' s r (post.mono (r := k a E1) s h)
  | exc c fs E' => exact fun h => h
  | bad => exact fun h => h
theorem bindN {f : Nv → R α} {k : α → Nv → R D} {Q2 : VK} {Q1 : β → Hp → Prop} (st : StOk g ρ G E F σ H) (h : postN g W ρ G F σ Q2 ((f E).bind k))
    (cont : ∀ a E1 b F1 H1, StOk g ρ G E1 F1 σ H1 → Same F F1 → rel F1 σ a b → postN g W ρ G F1 σ Q2 (k a E1) → Q1 b H1) : tG g W rel f σ H Q1 := by
  refine ⟨ρ, G, E, F, st, ?_⟩
  revert h
  cases f E with
  | val a E1 => exact fun h b F' H' st' s r => cont a E1 b F' H' st' s r (postN.mono (r := k a E1) s h)
  | exc c fs E' => exact fun h => h
  | bad => exact fun h => h
theorem bindS {f : Nv → R α} {k : α → Nv → R Fl} {D : Ends} {Q1 : β → Hp → Prop} (st : StOk g ρ G E F σ H) (h : postS g W ρ G F D ((f E).bind k))
    (cont : ∀ a E1 b F1 H1, StOk g ρ G E1 F1 σ H1 → Same F F1 → rel F1 σ a b → postS g W ρ G F1 D (k a E1) → Q1 b H1) : tG g W rel f σ H Q1 := by
  refine ⟨ρ, G, E, F, st, ?_⟩
  revert h
  cases f E with
  | val a E1 => exact fun h b F' H' st' s r => cont a E1 b F' H' st' s r (postS.mono (r := k a E1) s h)
  | exc c fs E' => exact fun h dx F' H' st' s x => h dx σ F' H' st' s x
  | bad => exact fun h => h
/-- a new object, then the rest -/
theorem bindNE {f : Nv → R D} {k : D → Nv → R γ} {Q2 : δ → Hp → Prop} {Q1 : VK} (st : StOk g ρ G E F σ H) (h : post g W rel2 ρ G F σ Q2 ((f E).bind k))
    (cont : ∀ d E1 p o F1 H1, StOk g ρ (upd G p o) E1 F1 σ H1 → G p = none → OwnO g F1 d o → Same F F1 → post g W rel2 ρ G F1 σ Q2 (k d E1) → Q1 (.ref p) H1) : tN g W f σ H Q1 := by
  refine ⟨ρ, G, E, F, st, ?_⟩
  revert h
  cases f E with
  | val a E1 => exact fun h p o F' H' st' n ow s => cont a E1 p o F' H' st' n ow s (post.mono (r := k a E1) s h)
  | exc c fs E' => exact fun h => h
  | bad => exact fun h => h
theorem bindNS {f : Nv → R D} {k : D → Nv → R Fl} {D' : Ends} {Q1 : VK} (st : StOk g ρ G E F σ H) (h : postS g W ρ G F D' ((f E).bind k))
    (cont : ∀ d E1 p o F1 H1, StOk g ρ (upd G p o) E1 F1 σ H1 → G p = none → OwnO g F1 d o → Same F F1 → postS g W ρ G F1 D' (k d E1) → Q1 (.ref p) H1) : tN g W f σ H Q1 := by
  refine ⟨ρ, G, E, F, st, ?_⟩
  revert h
  cases f E with
  | val a E1 => exact fun h p o F' H' st' n ow s => cont a E1 p o F' H' st' n ow s (postS.mono (r := k a E1) s h)
  | exc c fs E' => exact fun h dx F' H' st' s x => h dx σ F' H' st' s x
  | bad => exact fun h => h
end

/-! ## value operations -/
/-- only new frozen objects -/
def Grow (g : Gm) (F H F' H' : Hp) : Prop := Same F F' ∧ ∀ ρ G E σ, StOk g ρ G E F σ H → StOk g ρ G E F' σ H'
theorem Grow.refl {g : Gm} {F H : Hp} : Grow g F H F H := ⟨Same.refl _, fun _ _ _ _ h => h⟩
theorem Grow.new {g : Gm} {F H : Hp} {p : Addr} (o : HO) (sf : Same F H) (h : H p = none) : Grow g F H (upd F p o) (upd H p o) := ⟨Same.new (sf.free h), fun _ _ _ _ st => st.grow h o⟩
/-- d stands at v: frozen, or an owned cell's content -/
def RepH (g : Gm) (F H : Hp) (d : D) (v : V) : Prop := Rep g F d v ∨ ∃ p o, v = .ref p ∧ H p = some o ∧ OwnO g F d o
def RepHL (g : Gm) (F H : Hp) : List D → List V → Prop
  | [], vs => vs = []
  | d :: ds, vs => ∃ x xs, vs = x :: xs ∧ RepH g F H d x ∧ RepHL g F H ds xs
section
variable {g : Gm} {ρ : Nat → Addr} {G F F' H : Hp} {E : Nv} {σ : L2.St} {d : D} {v : V}
theorem ar_ok (st : StOk g ρ G E F σ H) : ∀ {a : Ar} {d : D} {v : V}, ArOk g F σ a v → a.get E = some d → RepH g F H d v
  | .v _, _, _, h, e => by cases e; exact .inl h
  | .pk i, d, v, h, e => by
    have h : σ[i]? = some (some v) := h
    unfold Ar.get at e
    cases q : E[i]? with
    | none => simp [q] at e
    | some s =>
      simp only [q] at e
      cases s with
      | no => cases e
      | fz x =>
        cases e
        obtain ⟨w, a, b⟩ := st.fz i _ q
        rw [h] at a
        cases a
        exact .inl b
      | own x =>
        cases e
        obtain ⟨p, a, _, _, o, b, c⟩ := st.at q rfl
        rw [h] at a
        cases a
        exact .inr ⟨p, o, rfl, b, c⟩
      | bor k x =>
        cases e
        obtain ⟨p, a, _, _, o, b, c⟩ := st.at q rfl
        rw [h] at a
        cases a
        exact .inr ⟨p, o, rfl, b, c⟩
/-- all operands' data -/
def arGets (E : Nv) : List Ar → Option (List D)
  | [] => some []
  | a :: as => match a.get E with
    | none => none
    | some d => match arGets E as with
      | none => none
      | some ds => some (d :: ds)
theorem ars_ok (st : StOk g ρ G E F σ H) : ∀ {as : List Ar} {ds : List D} {vs : List V}, ArsOk g F σ as vs → arGets E as = some ds → RepHL g F H ds vs
  | [], _, _, h, e => by cases e; exact h
  | a :: as, ds, _, ⟨x, xs, e1, r, t⟩, e => by
    subst e1
    unfold arGets at e
    cases q : a.get E with
    | none => simp [q] at e
    | some d =>
      cases q2 : arGets E as with
      | none => simp [q, q2] at e
      | some ds' =>
        simp [q, q2] at e
        subst e
        exact ⟨x, xs, rfl, ar_ok st r q, ars_ok st t q2⟩
theorem RepH.non (h : RepH g F H .non v) : v = .non := by rcases h with h | ⟨_, _, _, _, h⟩; exact h; exact h.elim
theorem RepH.bl {b : Bool} (h : RepH g F H (.bl b) v) : v = .bl b := by rcases h with h | ⟨_, _, _, _, h⟩; exact h; exact h.elim
theorem RepH.int {b : Int} (h : RepH g F H (.int b) v) : v = .int b := by rcases h with h | ⟨_, _, _, _, h⟩; exact h; exact h.elim
theorem RepH.str {b : Str} (h : RepH g F H (.str b) v) : v = .str b := by rcases h with h | ⟨_, _, _, _, h⟩; exact h; exact h.elim
theorem RepH.ty {b : String} (h : RepH g F H (.ty b) v) : v = .ty b := by rcases h with h | ⟨_, _, _, _, h⟩; exact h; exact h.elim
theorem RepH.cls {b : Nat} (h : RepH g F H (.cls b) v) : v = .ref (g.cls b) := by rcases h with h | ⟨_, _, _, _, h⟩; exact h; exact h.elim
theorem RepH.tup {ds : List D} (sf : Same F H) (h : RepH g F H (.tup ds) v) : ∃ a xs, v = .ref a ∧ SqT g.K H a xs ∧ RepL g F ds xs := by
  rcases h with ⟨a, xs, e, q, r⟩ | ⟨_, _, _, _, h⟩
  · exact ⟨a, xs, e, same_t sf q, r⟩
  · exact h.elim
theorem RepH.scr {ns : List Int} (sf : Same F H) (h : RepH g F H (.scr ns) v) : ∃ a, v = .ref a ∧ SqL g.K H a (ns.map V.int) := by
  rcases h with ⟨a, e, q⟩ | ⟨_, _, _, _, h⟩
  · exact ⟨a, e, sf.seq q⟩
  · exact h.elim
theorem RepH.lst {ds : List D} (sf : Same F H) (h : RepH g F H (.lst ds) v) : ∃ a xs, v = .ref a ∧ H a = some (.lst xs) ∧ RepL g F ds xs := by
  rcases h with ⟨a, xs, e, q, r⟩ | ⟨p, o, e, hp, xs, rfl, r⟩
  · exact ⟨a, xs, e, sf _ _ q, r⟩
  · exact ⟨p, xs, e, hp, r⟩
theorem RepH.ins {c : Nat} {ns : List Str} {ds : List D} (sf : Same F H) (h : RepH g F H (.ins c ns ds) v) : ∃ a dx xs, v = .ref a ∧ H a = some (.ins (g.cls c) dx (ns.zip xs)) ∧ ns.length = xs.length ∧ RepL g F ds xs := by
  rcases h with ⟨a, dx, xs, e, q, l, r⟩ | ⟨p, o, e, hp, dx, xs, rfl, l, r⟩
  · exact ⟨a, dx, xs, e, sf _ _ q, l, r⟩
  · exact ⟨p, dx, xs, e, hp, l, r⟩
theorem RepHL.one (h : RepHL g F H [d] vs) : ∃ x, vs = [x] ∧ RepH g F H d x := by
  obtain ⟨x, xs, rfl, r, e⟩ := h
  cases (show xs = [] from e)
  exact ⟨x, rfl, r⟩
theorem RepHL.two {d e : D} {vs : List V} (h : RepHL g F H [d, e] vs) : ∃ x y, vs = [x, y] ∧ RepH g F H d x ∧ RepH g F H e y := by
  obtain ⟨x, xs, rfl, r, t⟩ := h
  obtain ⟨y, rfl, q⟩ := RepHL.one t
  exact ⟨x, y, rfl, r, q⟩
end
/-- a two-place operation; one of an argument list; with a new owned result -/
def Op2 (g : Gm) (r : R2) (o : D → D → Option D) : Prop := ∀ (F H : Hp) (v u : V) (d e z : D) (Q : VK), Same F H → RepH g F H d v → RepH g F H e u → o d e = some z →
  (∀ w F' H', Grow g F H F' H' → Rep g F' z w → Q w H') → r v u H Q
def OpL (g : Gm) (r : List V → Hp → VK → Prop) (o : List D → Option D) : Prop := ∀ (F H : Hp) (vs : List V) (ds : List D) (z : D) (Q : VK), Same F H → RepHL g F H ds vs → o ds = some z →
  (∀ w F' H', Grow g F H F' H' → Rep g F' z w → Q w H') → r vs H Q
def OpN (g : Gm) (r : List V → Hp → VK → Prop) (o : List D → Option D) : Prop := ∀ (F H : Hp) (vs : List V) (ds : List D) (z : D) (Q : VK), Same F H → RepHL g F H ds vs → o ds = some z →
  (∀ p ob, H p = none → OwnO g F z ob → Q (.ref p) (upd H p ob)) → r vs H Q
def Op2N (g : Gm) (r : R2) (o : D → D → Option D) : Prop := ∀ (F H : Hp) (v u : V) (d e z : D) (Q : VK), Same F H → RepH g F H d v → RepH g F H e u → o d e = some z →
  (∀ p ob, H p = none → OwnO g F z ob → Q (.ref p) (upd H p ob)) → r v u H Q

/-! ## expressions -/
def fC (d : D) : Nv → R D := fun E => .val d E
def fVar (i : Nat) : Nv → R D := fun E => match E[i]? with
  | some (.fz d) => .val d E
  | some (.own d) => .val d (E.set i (.fz d))
  | _ => .bad
def fV (f : Nv → R D) : Nv → R Ar := fun E => (f E).bind fun d E1 => .val (.v d) E1
def fPk (i : Nat) : Nv → R Ar := fun E => match E[i]? with
  | some s => match s.cont with
    | some _ => .val (.pk i) E
    | none => .bad
  | none => .bad
def res2 (o : D → D → Option D) (E : Nv) (a b : Ar) : R D := match a.get E with
  | none => .bad
  | some d => match b.get E with
    | none => .bad
    | some e => R.some (o d e) E
def fOp2 (o : D → D → Option D) (fa fb : Nv → R Ar) : Nv → R D := fun E => (fa E).bind fun a E1 => (fb E1).bind fun b E2 => res2 o E2 a b
def fAs : List (Nv → R Ar) → Nv → R (List Ar)
  | [], E => .val [] E
  | f :: fs, E => (f E).bind fun a E1 => (fAs fs E1).bind fun as E2 => .val (a :: as) E2
def resL (o : List D → Option D) (E : Nv) (as : List Ar) : R D := match arGets E as with
  | none => .bad
  | some ds => R.some (o ds) E
def fOpL (o : List D → Option D) (fs : Nv → R (List Ar)) : Nv → R D := fun E => (fs E).bind fun as E1 => resL o E1 as
def asB : D → Option Bool
  | .bl b => some b
  | _ => none
def fTest (f : Nv → R D) : Nv → R Bool := fun E => (f E).bind fun d E1 => R.some (asB d) E1
def fChain (o o' : D → D → Option D) (fa fb fc : Nv → R Ar) : Nv → R D := fun E => (fa E).bind fun a E1 => (fb E1).bind fun b E2 => (res2 o E2 a b).bind fun z E3 => match asB z with
  | some true => (fc E3).bind fun c E4 => res2 o' E4 b c
  | some false => .val (.bl false) E3
  | none => .bad
def fAnd (fa fb : Nv → R D) : Nv → R D := fun E => (fa E).bind fun d E1 => match asB d with
  | some true => fb E1
  | some false => .val (.bl false) E1
  | none => .bad
def fOr (fa fb : Nv → R D) : Nv → R D := fun E => (fa E).bind fun d E1 => match asB d with
  | some true => .val (.bl true) E1
  | some false => fb E1
  | none => .bad
def fNot (fa : Nv → R D) : Nv → R D := fun E => (fa E).bind fun d E1 => match asB d with
  | some b => .val (.bl (!b)) E1
  | none => .bad
def tAndF (fa fb : Nv → R Bool) : Nv → R Bool := fun E => (fa E).bind fun b E1 => if b = true then fb E1 else .val false E1
def tOrF (fa fb : Nv → R Bool) : Nv → R Bool := fun E => (fa E).bind fun b E1 => if b = true then .val true E1 else fb E1
def tNotF (fa : Nv → R Bool) : Nv → R Bool := fun E => (fa E).bind fun b E1 => .val (!b) E1
def fIf {α : Type} (t : Nv → R Bool) (fa fb : Nv → R α) : Nv → R α := fun E => (t E).bind fun b E1 => if b = true then fa E1 else fb E1
section
variable {X : Cx} {g : Gm} {W : WX} {e a b c : Expr} {es : List Expr} {pos : Pos}
theorem fe_var {i : Nat} (h : PE X e (tVar i)) : FE X g W e (fVar i) := peImp h fun σ H Q ⟨ρ, G, E, F, st, q⟩ => by
  unfold fVar at q
  cases z : E[i]? with
  | none => simp only [z] at q; exact q.elim
  | some s =>
    simp only [z] at q
    cases s with
    | no => exact q.elim
    | bor _ _ => exact q.elim
    | fz d =>
      obtain ⟨v, x, r⟩ := st.fz i d z
      exact ⟨v, x, q v F H st (Same.refl F) r⟩
    | own d =>
      obtain ⟨v, F', x, s, r, st'⟩ := st.demote z
      exact ⟨v, x, q v F' H st' s r⟩
theorem fe_c {v : V} (h : PE X e (tC v)) (d : D) (r : ∀ F, Rep g F d v) : FE X g W e (fC d) := peImp h fun σ H Q ⟨ρ, G, E, F, st, q⟩ => q v F H st (Same.refl F) (r F)
theorem fo_val {f : Nv → R D} (h : FE X g W e f) : FO X g W e (fV f) := peImp h fun σ H Q ⟨ρ, G, E, F, st, q⟩ =>
  bindE st q fun d E1 v F1 H1 st1 s1 r1 q1 => q1 v F1 H1 st1 (Same.refl F1) r1
theorem fo_pk {i : Nat} (h : PE X e (tVar i)) : FO X g W e (fPk i) := peImp h fun σ H Q ⟨ρ, G, E, F, st, q⟩ => by
  unfold fPk at q
  cases z : E[i]? with
  | none => simp only [z] at q; exact q.elim
  | some s =>
    simp only [z] at q
    cases s with
    | no => exact q.elim
    | fz d =>
      obtain ⟨v, x, r⟩ := st.fz i d z
      exact ⟨v, x, q v F H st (Same.refl F) x⟩
    | own d =>
      obtain ⟨p, x, r⟩ := st.at z rfl
      exact ⟨_, x, q _ F H st (Same.refl F) x⟩
    | bor k d =>
      obtain ⟨p, x, r⟩ := st.at z rfl
      exact ⟨_, x, q _ F H st (Same.refl F) x⟩
theorem res2_ok {r : R2} {o : D → D → Option D} (hr : Op2 g r o) {ρ : Nat → Addr} {G F H : Hp} {E : Nv} {σ : L2.St} {x y : Ar} {v u : V} {Q : VK} (st : StOk g ρ G E F σ H) (rx : ArOk g F σ x v) (ry : ArOk g F σ y u)
    {Q1 : VK} (h : ∀ z, res2 o E x y = .val z E → ∀ w F' H', Same F F' → StOk g ρ G E F' σ H' → Rep g F' z w → Q1 w H') (nb : res2 o E x y ≠ .bad) : r v u H Q1 := by
  unfold res2 at h nb
  cases e1 : x.get E with
  | none => simp [e1] at nb
  | some d =>
    cases e2 : y.get E with
    | none => simp [e1, e2] at nb
    | some e =>
      simp only [e1, e2] at h nb
      cases e3 : o d e with
      | none => simp [e3, R.some] at nb
      | some z =>
        simp only [e3, R.some] at h
        exact hr F H v u d e z Q1 st.sf (ar_ok st rx e1) (ar_ok st ry e2) e3 fun w F' H' gr rw' => h z rfl w F' H' gr.1 (gr.2 _ _ _ _ st) rw'
theorem le_op2 {r : R2} {o : D → D → Option D} (hr : Op2 g r o) {fa fb : Nv → R Ar} {σ : L2.St} {H : Hp} {Q : VK} (h : tG g W (relD g) (fOp2 o fa fb) σ H Q) : tOp r (tG g W (relA g) fa) (tG g W (relA g) fb) σ H Q := by
  obtain ⟨ρ, G, E, F, st, q⟩ := h
  refine bindE st q fun x E1 v F1 H1 st1 s1 r1 q1 => ?_
  refine bindE st1 q1 fun y E2 u F2 H2 st2 s2 r2 q2 => ?_
  refine res2_ok (Q := Q) hr st2 (r1.mono s2) r2 (fun z e w F' H' s st' r => ?_) fun e => by rw [e] at q2; exact q2.elim
  rw [e] at q2
  exact q2 w F' H' st' s r
theorem fe_op2 {r : R2} {o : D → D → Option D} (hr : Op2 g r o) {fa fb : Nv → R Ar} (h : PE X e (tOp r (tG g W (relA g) fa) (tG g W (relA g) fb))) : FE X g W e (fOp2 o fa fb) := peImp h fun _ _ _ q => le_op2 hr q
theorem le_test {f : Nv → R D} {t : TE} (i : ∀ σ H Q, tG g W (relD g) f σ H Q → t σ H Q) {σ : L2.St} {H : Hp} {Q : Bool → Hp → Prop} (h : tG g W relB (fTest f) σ H Q) : t σ H fun x H' => ∃ k, x = .bl k ∧ Q k H' := by
  obtain ⟨ρ, G, E, F, st, q⟩ := h
  refine i _ _ _ (bindE st q fun d E1 v F1 H1 st1 s1 r1 q1 => ?_)
  cases d with
  | bl k =>
    obtain rfl : v = .bl k := r1
    exact ⟨k, rfl, q1 k F1 H1 st1 (Same.refl _) rfl⟩
  | _ => exact q1.elim
theorem ft_op2 {r : R2} {o : D → D → Option D} (hr : Op2 g r o) {fa fb : Nv → R Ar} (h : PT X e (tTest (tOp r (tG g W (relA g) fa) (tG g W (relA g) fb)))) : FT X g W e (fTest (fOp2 o fa fb)) := ptImp h fun _ _ _ q => le_test (fun _ _ _ => le_op2 hr) q
theorem ft_val {f : Nv → R D} (h : PT X e (tB (tG g W (relD g) f))) : FT X g W e (fTest f) := ptImp h fun _ _ _ q => le_test (fun _ _ _ z => z) q
theorem le_chain {r r' : R2} {o o' : D → D → Option D} (hr : Op2 g r o) (hr' : Op2 g r' o') {fa fb fc : Nv → R Ar} {σ : L2.St} {H : Hp} {Q : VK} (h : tG g W (relD g) (fChain o o' fa fb fc) σ H Q) :
    tChain r r' (tG g W (relA g) fa) (tG g W (relA g) fb) (tG g W (relA g) fc) σ H Q := by
  obtain ⟨ρ, G, E, F, st, q⟩ := h
  refine bindE st q fun x E1 v F1 H1 st1 s1 r1 q1 => ?_
  refine bindE st1 q1 fun y E2 u F2 H2 st2 s2 r2 q2 => ?_
  refine res2_ok (Q := Q) hr st2 (r1.mono s2) r2 (fun z e w F3 H3 s3 st3 r3 => ?_) fun e => by rw [e] at q2; exact q2.elim
  rw [e] at q2
  have q2 : post g W (relD g) ρ G F2 σ Q (match asB z with | some true => (fc E2).bind fun c E4 => res2 o' E4 y c | some false => .val (.bl false) E2 | none => .bad) := q2
  cases z with
  | bl k =>
    obtain rfl : w = .bl k := r3
    refine ⟨k, rfl, ?_⟩
    cases k with
    | true =>
      rw [if_pos rfl]
      refine bindE (rel := relA g) st3 (post.mono s3 q2) fun c E4 w F4 H4 st4 s4 r4 q4 => ?_
      refine res2_ok (Q := Q) hr' st4 (r2.mono (s3.trans s4)) r4 (fun z' e' w' F' H' s st' r => ?_) fun e' => by rw [e'] at q4; exact q4.elim
      rw [e'] at q4
      exact q4 w' F' H' st' s r
    | false =>
      rw [if_neg Bool.false_ne_true]
      exact q2 (.bl false) F3 H3 st3 s3 rfl
  | _ => exact q2.elim
theorem fe_chain {r r' : R2} {o o' : D → D → Option D} (hr : Op2 g r o) (hr' : Op2 g r' o') {fa fb fc : Nv → R Ar} (h : PE X e (tChain r r' (tG g W (relA g) fa) (tG g W (relA g) fb) (tG g W (relA g) fc))) : FE X g W e (fChain o o' fa fb fc) :=
  peImp h fun _ _ _ q => le_chain hr hr' q
theorem ft_chain {r r' : R2} {o o' : D → D → Option D} (hr : Op2 g r o) (hr' : Op2 g r' o') {fa fb fc : Nv → R Ar} (h : PT X e (tTest (tChain r r' (tG g W (relA g) fa) (tG g W (relA g) fb) (tG g W (relA g) fc)))) : FT X g W e (fTest (fChain o o' fa fb fc)) :=
  ptImp h fun _ _ _ q => le_test (fun _ _ _ => le_chain hr hr') q
theorem fe_and {fa fb : Nv → R D} (h : PE X e (tAndV (tG g W (relD g) fa) (tG g W (relD g) fb))) : FE X g W e (fAnd fa fb) := peImp h fun σ H Q ⟨ρ, G, E, F, st, q⟩ =>
  bindE st q fun d E1 v F1 H1 st1 s1 r1 q1 => by
    cases d with
    | bl k =>
      obtain rfl : v = .bl k := r1
      refine ⟨k, rfl, ?_⟩
      cases k with
      | true => rw [if_pos rfl]; exact ⟨ρ, G, E1, F1, st1, q1⟩
      | false => rw [if_neg Bool.false_ne_true]; exact q1 _ F1 H1 st1 (Same.refl _) rfl
    | _ => exact q1.elim
theorem fe_or {fa fb : Nv → R D} (h : PE X e (tOrV (tG g W (relD g) fa) (tG g W (relD g) fb))) : FE X g W e (fOr fa fb) := peImp h fun σ H Q ⟨ρ, G, E, F, st, q⟩ =>
  bindE st q fun d E1 v F1 H1 st1 s1 r1 q1 => by
    cases d with
    | bl k =>
      obtain rfl : v = .bl k := r1
      refine ⟨k, rfl, ?_⟩
      cases k with
      | true => rw [if_pos rfl]; exact q1 _ F1 H1 st1 (Same.refl _) rfl
      | false => rw [if_neg Bool.false_ne_true]; exact ⟨ρ, G, E1, F1, st1, q1⟩
    | _ => exact q1.elim
theorem fe_not {fa : Nv → R D} (h : PE X e (tNotV (tG g W (relD g) fa))) : FE X g W e (fNot fa) := peImp h fun σ H Q ⟨ρ, G, E, F, st, q⟩ =>
  bindE st q fun d E1 v F1 H1 st1 s1 r1 q1 => by
    cases d with
    | bl k =>
      obtain rfl : v = .bl k := r1
      exact ⟨k, rfl, q1 _ F1 H1 st1 (Same.refl _) rfl⟩
    | _ => exact q1.elim
theorem le_and {fa fb : Nv → R Bool} {σ : L2.St} {H : Hp} {Q : Bool → Hp → Prop} (h : tG g W relB (tAndF fa fb) σ H Q) : tAnd (tG g W relB fa) (tG g W relB fb) σ H Q := by
  obtain ⟨ρ, G, E, F, st, q⟩ := h
  refine bindE st q fun k E1 c F1 H1 st1 s1 r1 q1 => ?_
  obtain rfl : k = c := r1
  cases k with
  | true => rw [if_pos rfl]; exact ⟨ρ, G, E1, F1, st1, q1⟩
  | false => rw [if_neg Bool.false_ne_true]; exact q1 _ F1 H1 st1 (Same.refl _) rfl
theorem le_or {fa fb : Nv → R Bool} {σ : L2.St} {H : Hp} {Q : Bool → Hp → Prop} (h : tG g W relB (tOrF fa fb) σ H Q) : tOr (tG g W relB fa) (tG g W relB fb) σ H Q := by
  obtain ⟨ρ, G, E, F, st, q⟩ := h
  refine bindE st q fun k E1 c F1 H1 st1 s1 r1 q1 => ?_
  obtain rfl : k = c := r1
  cases k with
  | true => rw [if_pos rfl]; exact q1 _ F1 H1 st1 (Same.refl _) rfl
  | false => rw [if_neg Bool.false_ne_true]; exact ⟨ρ, G, E1, F1, st1, q1⟩
abbrev FW (X : Cx) (g : Gm) (W : WX) (e : Expr) (f : Nv → R Bool) : Prop := PW X e (tG g W relB f)
variable {rest : List Expr}
theorem fw_and1 {fa : Nv → R Bool} (h : FT X g W a fa) : FW X g W (.BoolOp .And [a] pos) fa := pw_and1 h
theorem fw_or1 {fa : Nv → R Bool} (h : FT X g W a fa) : FW X g W (.BoolOp .Or [a] pos) fa := pw_or1 h
theorem fw_and {fa fb : Nv → R Bool} (h : FT X g W a fa) (k : FW X g W (.BoolOp .And (b :: rest) pos) fb) : FW X g W (.BoolOp .And (a :: b :: rest) pos) (tAndF fa fb) := pwImp (pw_and h k) fun _ _ _ q => le_and q
theorem fw_or {fa fb : Nv → R Bool} (h : FT X g W a fa) (k : FW X g W (.BoolOp .Or (b :: rest) pos) fb) : FW X g W (.BoolOp .Or (a :: b :: rest) pos) (tOrF fa fb) := pwImp (pw_or h k) fun _ _ _ q => le_or q
theorem ft_not {fa : Nv → R Bool} (h : FT X g W a fa) : FT X g W (.UnaryOp .Not a pos) (tNotF fa) := ptImp (pt_not h) fun σ H Q ⟨ρ, G, E, F, st, q⟩ =>
  bindE st q fun k E1 c F1 H1 st1 s1 r1 q1 => q1 (!c) F1 H1 st1 (Same.refl _) (by rw [show k = c from r1])
theorem fe_if {t : Nv → R Bool} {fa fb : Nv → R D} (ht : FT X g W c t) (ha : FE X g W a fa) (hb : FE X g W b fb) : FE X g W (.IfExp c a b pos) (fIf t fa fb) := peImp (pe_ifExp ht ha hb) fun σ H Q ⟨ρ, G, E, F, st, q⟩ =>
  bindE st q fun k E1 c F1 H1 st1 s1 r1 q1 => by
    obtain rfl : k = c := r1
    cases k with
    | true => rw [if_pos rfl]; exact ⟨ρ, G, E1, F1, st1, q1⟩
    | false => rw [if_neg Bool.false_ne_true]; exact ⟨ρ, G, E1, F1, st1, q1⟩
/-! operand lists -/
theorem fa_nil : FA X g W [] (fAs []) := paImp pa_nil fun σ H Q ⟨ρ, G, E, F, st, q⟩ => q [] F H st (Same.refl _) rfl
theorem fa_cons {f : Nv → R Ar} {fs : List (Nv → R Ar)} (h : FO X g W e f) (k : FA X g W es (fAs fs)) (hs : starEach (e :: es) X.env = (false, eval e X.env) :: starEach es X.env := by rfl) : FA X g W (e :: es) (fAs (f :: fs)) :=
  paImp (pa_cons h k hs) fun σ H Q ⟨ρ, G, E, F, st, q⟩ =>
    bindE st q fun x E1 v F1 H1 st1 s1 r1 q1 => bindE st1 q1 fun xs E2 vs F2 H2 st2 s2 r2 q2 => q2 (v :: vs) F2 H2 st2 (Same.refl _) ⟨v, vs, rfl, r1.mono s2, r2⟩
theorem resL_ok {r : List V → Hp → VK → Prop} {o : List D → Option D} (hr : OpL g r o) {ρ : Nat → Addr} {G F H : Hp} {E : Nv} {σ : L2.St} {xs : List Ar} {vs : List V} (st : StOk g ρ G E F σ H) (rx : ArsOk g F σ xs vs)
    {Q1 : VK} (h : ∀ z, resL o E xs = .val z E → ∀ w F' H', Same F F' → StOk g ρ G E F' σ H' → Rep g F' z w → Q1 w H') (nb : resL o E xs ≠ .bad) : r vs H Q1 := by
  unfold resL at h nb
  cases e1 : arGets E xs with
  | none => simp [e1] at nb
  | some ds =>
    simp only [e1] at h nb
    cases e3 : o ds with
    | none => simp [e3, R.some] at nb
    | some z =>
      simp only [e3, R.some] at h
      exact hr F H vs ds z Q1 st.sf (ars_ok st rx e1) e3 fun w F' H' gr rw' => h z rfl w F' H' gr.1 (gr.2 _ _ _ _ st) rw'
theorem le_opL {r : List V → Hp → VK → Prop} {o : List D → Option D} (hr : OpL g r o) {fs : Nv → R (List Ar)} {σ : L2.St} {H : Hp} {Q : VK} (h : tG g W (relD g) (fOpL o fs) σ H Q) : tCB r (tG g W (relAs g) fs) σ H Q := by
  obtain ⟨ρ, G, E, F, st, q⟩ := h
  refine bindE st q fun x E1 v F1 H1 st1 s1 r1 q1 => ?_
  refine resL_ok hr st1 r1 (fun z e w F' H' s st' r => ?_) fun e => by rw [e] at q1; exact q1.elim
  rw [e] at q1
  exact q1 w F' H' st' s r
theorem fe_opL {r : List V → Hp → VK → Prop} {o : List D → Option D} (hr : OpL g r o) {fs : Nv → R (List Ar)} (h : PE X e (tCB r (tG g W (relAs g) fs))) : FE X g W e (fOpL o fs) := peImp h fun _ _ _ q => le_opL hr q
theorem fn_opL {r : List V → Hp → VK → Prop} {o : List D → Option D} (hr : OpN g r o) {fs : Nv → R (List Ar)} (h : PE X e (tCB r (tG g W (relAs g) fs))) : FN X g W e (fOpL o fs) := peImp h fun σ H Q ⟨ρ, G, E, F, st, q⟩ => by
  refine bindN st q fun x E1 vs F1 H1 st1 s1 r1 q1 => ?_
  unfold resL at q1
  cases e1 : arGets E1 x with
  | none => simp only [e1] at q1; exact q1.elim
  | some ds =>
    simp only [e1] at q1
    cases e3 : o ds with
    | none => simp only [e3, R.some] at q1; exact q1.elim
    | some z =>
      simp only [e3, R.some] at q1
      exact hr F1 H1 vs ds z Q st1.sf (ars_ok st1 r1 e1) e3 fun p ob hp ow => q1 p ob F1 _ (st1.temp hp ob) (st1.fG hp) ow (Same.refl _)
theorem fn_op2 {r : R2} {o : D → D → Option D} (hr : Op2N g r o) {fa fb : Nv → R Ar} (h : PE X e (tOp r (tG g W (relA g) fa) (tG g W (relA g) fb))) : FN X g W e (fOp2 o fa fb) := peImp h fun σ H Q ⟨ρ, G, E, F, st, q⟩ => by
  refine bindN st q fun x E1 v F1 H1 st1 s1 r1 q1 => ?_
  refine bindN st1 q1 fun y E2 u F2 H2 st2 s2 r2 q2 => ?_
  unfold res2 at q2
  cases e1 : x.get E2 with
  | none => simp only [e1] at q2; exact q2.elim
  | some d =>
    cases e2 : y.get E2 with
    | none => simp only [e1, e2] at q2; exact q2.elim
    | some e =>
      simp only [e1, e2] at q2
      cases e3 : o d e with
      | none => simp only [e3, R.some] at q2; exact q2.elim
      | some z =>
        simp only [e3, R.some] at q2
        exact hr F2 H2 v u d e z Q st2.sf (ar_ok st2 (r1.mono s2) e1) (ar_ok st2 r2 e2) e3 fun p ob hp ow => q2 p ob F2 _ (st2.temp hp ob) (st2.fG hp) ow (Same.refl _)
/-- a new object, frozen -/
theorem fe_fn {f : Nv → R D} (h : FN X g W e f) : FE X g W e f := peImp h fun σ H Q ⟨ρ, G, E, F, st, q⟩ => by
  refine ⟨ρ, G, E, F, st, ?_⟩
  revert q
  cases f E with
  | val d E1 => exact fun q p o F' H' st' gn ow s => q (.ref p) _ H' (st'.freeze gn) (s.trans (Same.new (st'.dj p o upd_same))) (ow.rep (st'.dj p o upd_same))
  | exc c fs E' => exact fun q => q
  | bad => exact fun q => q
end
end FL

namespace FL
open PySem PySem.Spec PyProof.Rows L2

/-! ## statements -/
def fSeq (s t : Nv → R Fl) : Nv → R Fl := fun E => match s E with
  | .val .nx E1 => t E1
  | r => r
def fNx : Nv → R Fl := fun E => .val .nx E
def fBrk : Nv → R Fl := fun E => .val .bk E
def fCnt : Nv → R Fl := fun E => .val .ct E
def fDrop (f : Nv → R D) : Nv → R Fl := fun E => (f E).bind fun _ E1 => .val .nx E1
def fRet (f : Nv → R D) : Nv → R Fl := fun E => (f E).bind fun d E1 => .val (.rt d) E1
def fRetN (f : Nv → R D) : Nv → R Fl := fun E => (f E).bind fun d E1 => .val (.rn d) E1
def fRetO (i : Nat) : Nv → R Fl := fun E => match E[i]? with
  | some (.own d) => .val (.rn d) (E.set i .no)
  | _ => .bad
def fRet0 : Nv → R Fl := fun E => .val (.rt .non) E
def fSet (i : Nat) (f : Nv → R D) : Nv → R Fl := fun E => (f E).bind fun d E1 => .val .nx (E1.set i (.fz d))
def fSetN (i : Nat) (f : Nv → R D) : Nv → R Fl := fun E => (f E).bind fun d E1 => .val .nx (E1.set i (.own d))
def fBad {α : Type} : Nv → R α := fun _ => .bad
section
variable {X : Cx} {g : Gm} {W : WX} {e a b c : Expr} {es : List Expr} {pos : Pos} {st : Stmt} {sts : List Stmt}
theorem fss_nil : FSs X g W [] fNx := pssImp pss_nil fun D σ H ⟨ρ, G, E, F, st, q⟩ => q σ F H st (Same.refl _)
theorem fss_cons {s t : Nv → R Fl} (h : FS X g W st s) (k : FSs X g W sts t) : FSs X g W (st :: sts) (fSeq s t) := pssImp (pss_cons h k) fun D σ H ⟨ρ, G, E, F, st, q⟩ => by
  refine ⟨ρ, G, E, F, st, ?_⟩
  unfold fSeq at q
  revert q
  cases s E with
  | val fl E1 =>
    cases fl with
    | nx => exact fun q σ' F' H' st' ss => ⟨ρ, G, E1, F', st', postS.mono ss q⟩
    | rt d => exact fun q => q
    | rn d => exact fun q => q
    | bk => exact fun q => q
    | ct => exact fun q => q
  | exc c f E1 => exact fun q => q
  | bad => exact fun q => q
theorem fss_one {s : Nv → R Fl} (h : FS X g W st s) : FSs X g W [st] s := pss_one h
theorem fss_never : FSs X g W sts fBad := pssImp pss_never fun D σ H ⟨ρ, G, E, F, st, q⟩ => q
theorem fs_never : FS X g W st fBad := psImp ps_never fun D σ H ⟨ρ, G, E, F, st, q⟩ => q
theorem fs_pass : FS X g W (.Pass pos) fNx := psImp ps_pass fun D σ H ⟨ρ, G, E, F, st, q⟩ => q σ F H st (Same.refl _)
theorem fs_break : FS X g W (.Break pos) fBrk := psImp ps_break fun D σ H ⟨ρ, G, E, F, st, q⟩ => q σ F H st (Same.refl _)
theorem fs_continue : FS X g W (.Continue pos) fCnt := psImp ps_continue fun D σ H ⟨ρ, G, E, F, st, q⟩ => q σ F H st (Same.refl _)
theorem fs_doc {x j pos pos'} : FS X g W (.Expr (.Constant (.str x) j pos) pos') fNx := psImp ps_doc fun D σ H ⟨ρ, G, E, F, st, q⟩ => q σ F H st (Same.refl _)
theorem fs_expr {f : Nv → R D} (h : PS X st (tDrop (tG g W (relD g) f))) : FS X g W st (fDrop f) := psImp h fun D σ H ⟨ρ, G, E, F, st, q⟩ =>
  bindS st q fun d E1 v F1 H1 st1 s1 r1 q1 => q1 σ F1 H1 st1 (Same.refl _)
theorem fs_ret {f : Nv → R D} (h : FE X g W e f) : FS X g W (.Return (some e) pos) (fRet f) := psImp (ps_ret h) fun D σ H ⟨ρ, G, E, F, st, q⟩ =>
  bindS st q fun d E1 v F1 H1 st1 s1 r1 q1 => q1 v σ F1 H1 st1 (Same.refl _) r1
theorem fs_retN {f : Nv → R D} (h : FN X g W e f) : FS X g W (.Return (some e) pos) (fRetN f) := psImp (ps_ret h) fun D σ H ⟨ρ, G, E, F, st, q⟩ =>
  bindNS st q fun d E1 p o F1 H1 st1 n ow s q1 => q1 p o σ F1 H1 st1 n ow (Same.refl _)
theorem fs_retO {i : Nat} (h : PE X e (tVar i)) : FS X g W (.Return (some e) pos) (fRetO i) := psImp (ps_ret h) fun D σ H ⟨ρ, G, E, F, st, q⟩ => by
  unfold fRetO at q
  cases z : E[i]? with
  | none => simp only [z] at q; exact q.elim
  | some s =>
    simp only [z] at q
    cases s with
    | own d =>
      obtain ⟨p, x, _, _, o, hp, _⟩ := st.at z rfl
      obtain ⟨st1, gn, ow⟩ := st.give z rfl x hp
      exact ⟨.ref p, x, q p o σ F H st1 gn ow (Same.refl _)⟩
    | _ => exact q.elim
theorem fs_ret0 : FS X g W (.Return none pos) fRet0 := psImp ps_retN fun D σ H ⟨ρ, G, E, F, st, q⟩ => q .non σ F H st (Same.refl _) rfl
theorem fs_if {t : Nv → R Bool} {sa sb : Nv → R Fl} {la lb : List Stmt} (ht : FT X g W c t) (ha : FSs X g W la sa) (hb : FSs X g W lb sb) : FS X g W (.If c la lb pos) (fIf t sa sb) := psImp (ps_if ht ha hb) fun D σ H ⟨ρ, G, E, F, st, q⟩ =>
  bindS st q fun k E1 c F1 H1 st1 s1 r1 q1 => by
    obtain rfl : k = c := r1
    cases k with
    | true => rw [if_pos rfl]; exact ⟨ρ, G, E1, F1, st1, q1⟩
    | false => rw [if_neg Bool.false_ne_true]; exact ⟨ρ, G, E1, F1, st1, q1⟩
theorem fs_set {i : Nat} {f : Nv → R D} (h : PS X st (tAsg (tG g W (relD g) f) (gName i))) : FS X g W st (fSet i f) := psImp h fun D σ H ⟨ρ, G, E, F, st, q⟩ =>
  bindS st q fun d E1 v F1 H1 st1 s1 r1 q1 => q1 _ F1 H1 (st1.store r1) (Same.refl _)
theorem fs_setN {i : Nat} {f : Nv → R D} (h : PS X st (tAsg (tN g W f) (gName i))) : FS X g W st (fSetN i f) := psImp h fun D σ H ⟨ρ, G, E, F, st, q⟩ =>
  bindNS st q fun d E1 p o F1 H1 st1 n ow s q1 => q1 _ F1 H1 (st1.take n ow) (Same.refl _)
end

/-! ## targets -/
abbrev Bd := D → Nv → Option Nv
def tGt (g : Gm) (b : Bd) : TG := fun v σ H Q => ∃ ρ G E F d, StOk g ρ G E F σ H ∧ Rep g F d v ∧ ∃ E', b d E = some E' ∧ ∀ σ' F' H', StOk g ρ G E' F' σ' H' → Same F F' → Q σ' H'
def bAll : List Bd → List D → Nv → Option Nv
  | [], [], E => some E
  | b :: bs, d :: ds, E => (b d E).bind fun E1 => bAll bs ds E1
  | _, _, _ => none
def tGts (g : Gm) (bs : List Bd) : TGs := fun vs σ H Q => ∃ ρ G E F ds, StOk g ρ G E F σ H ∧ RepL g F ds vs ∧ ∃ E', bAll bs ds E = some E' ∧ ∀ σ' F' H', StOk g ρ G E' F' σ' H' → Same F F' → Q σ' H'
def bName (i : Nat) : Bd := fun d E => some (E.set i (.fz d))
def bTup (bs : List Bd) : Bd := fun d E => match d with
  | .tup ds => bAll bs ds E
  | _ => none
theorem bAll_len : ∀ {bs : List Bd} {ds : List D} {E E' : Nv}, bAll bs ds E = some E' → ds.length = bs.length
  | [], [], _, _, _ => rfl
  | _ :: bs, _ :: ds, _, _, h => by
    unfold bAll at h
    obtain ⟨E1, _, h2⟩ := Option.bind_eq_some_iff.mp h
    simp [bAll_len h2]
  | [], _ :: _, _, _, h => by simp [bAll] at h
  | _ :: _, [], _, _, h => by simp [bAll] at h
section
variable {X : Cx} {g : Gm} {W : WX} {e t : Expr} {es : List Expr} {pos : Pos} {st : Stmt}
theorem pgImp {r r' : TG} (h : PG X t r) (i : ∀ v σ H Q, r' v σ H Q → r v σ H Q) : PG X t r' := ⟨fun pins s σ H v u Q I rv q => h.run pins s σ H v u Q I rv (i v σ H Q q)⟩
theorem pgsImp {r r' : TGs} (h : PGs X es r) (i : ∀ v σ H Q, r' v σ H Q → r v σ H Q) : PGs X es r' := ⟨fun pins s σ H v u Q I rv q => h.run pins s σ H v u Q I rv (i v σ H Q q)⟩
theorem fg_name {i : Nat} (h : PG X t (gName i)) : PG X t (tGt g (bName i)) := pgImp h fun v σ H Q ⟨ρ, G, E, F, d, st, r, E', e, q⟩ => by
  cases e
  exact q _ F H (st.store r) (Same.refl _)
theorem fgs_nil : PGs X [] (tGts g []) := pgsImp pgs_nil fun vs σ H Q ⟨ρ, G, E, F, ds, st, r, E', e, q⟩ => by
  cases ds with
  | nil => cases e; exact ⟨r, q σ F H st (Same.refl _)⟩
  | cons d ds => cases e
theorem fgs_cons {b : Bd} {bs : List Bd} (h : PG X e (tGt g b)) (k : PGs X es (tGts g bs)) (hs : (assignEach (e :: es) X.env).map (·.2) = assign e X.env :: (assignEach es X.env).map (·.2) := by rfl) : PGs X (e :: es) (tGts g (b :: bs)) :=
  pgsImp (pgs_cons h k hs) fun vs σ H Q ⟨ρ, G, E, F, ds, st, r, E', e, q⟩ => by
    cases ds with
    | nil => cases e
    | cons d ds =>
      obtain ⟨x, xs, rfl, r1, r2⟩ := r
      obtain ⟨E1, e1, e2⟩ := Option.bind_eq_some_iff.mp e
      exact ⟨x, xs, rfl, ρ, G, E, F, d, st, r1, E1, e1, fun σ1 F1 H1 st1 s1 => ⟨ρ, G, E1, F1, ds, st1, r2.mono s1, E', e2, fun σ' F' H' st' s' => q σ' F' H' st' (s1.trans s')⟩⟩
theorem fg_tup {bs : List Bd} {k : Nat} (hc : X.calm = true) (h : PGs X es (tGts g bs)) (hK : X.K = g.K) (hn : (assignEach es X.env).length = bs.length := by rfl) (hst : (assignEach es X.env).findIdx? (·.1) = none := by rfl) : PG X (.Tuple es k pos) (tGt g (bTup bs)) :=
  pgImp (pg_tup hc h hn hst) fun v σ H Q ⟨ρ, G, E, F, d, st, r, E', e, q⟩ => by
    cases d with
    | tup ds =>
      obtain ⟨a, xs, rfl, rx, rl⟩ := r
      refine ⟨a, xs, rfl, by rw [hK]; exact same_t st.sf rx, ?_, ρ, G, E, F, ds, st, rl, E', e, q⟩
      rw [← rl.length]; exact bAll_len e
    | _ => cases e
def fAsg (f : Nv → R D) (b : Bd) : Nv → R Fl := fun E => (f E).bind fun d E1 => match b d E1 with
  | some E2 => .val .nx E2
  | none => .bad
theorem fs_asg {f : Nv → R D} {b : Bd} (h : PS X st (tAsg (tG g W (relD g) f) (tGt g b))) : FS X g W st (fAsg f b) := psImp h fun D σ H ⟨ρ, G, E, F, st, q⟩ =>
  bindS st q fun d E1 v F1 H1 st1 s1 r1 q1 => by
    cases z : b d E1 with
    | none => simp only [z] at q1; exact q1.elim
    | some E2 =>
      simp only [z] at q1
      exact ⟨ρ, G, E1, F1, d, st1, r1, E2, z, q1⟩
/-- a, b = x, y -/
def fPar (i j : Nat) (f h : Nv → R D) : Nv → R Fl := fun E => (f E).bind fun d E1 => (h E1).bind fun e E2 => .val .nx ((E2.set i (.fz d)).set j (.fz e))
theorem fs_par {i j : Nat} {f h : Nv → R D} (k : PS X st (tPar i j (tCons (tG g W (relD g) f) (tCons (tG g W (relD g) h) tNil)))) : FS X g W st (fPar i j f h) := psImp k fun D σ H ⟨ρ, G, E, F, st, q⟩ =>
  bindS st q fun d E1 v F1 H1 st1 s1 r1 q1 => bindS st1 q1 fun e E2 u F2 H2 st2 s2 r2 q2 =>
    ⟨v, u, rfl, q2 _ F2 H2 ((st2.store (r1.mono s2)).store r2) (Same.refl _)⟩
def fParNE (i j : Nat) (f h : Nv → R D) : Nv → R Fl := fun E => (f E).bind fun d E1 => (h E1).bind fun e E2 => .val .nx ((E2.set i (.own d)).set j (.fz e))
theorem fs_parNE {i j : Nat} {f h : Nv → R D} (k : PS X st (tPar i j (tCons (tN g W f) (tCons (tG g W (relD g) h) tNil)))) : FS X g W st (fParNE i j f h) := psImp k fun D σ H ⟨ρ, G, E, F, st, q⟩ =>
  bindNS st q fun d E1 p o F1 H1 st1 gn ow s1 q1 => by
    refine ⟨ρ, _, E1, F1, st1, ?_⟩
    revert q1
    cases h E1 with
    | val e E2 => exact fun q1 u F2 H2 st2 s2 r2 => ⟨.ref p, u, rfl, q1 _ F2 H2 ((st2.take gn (ow.mono s2)).store r2) s2⟩
    | exc c fs E' => exact fun q1 dx F' H' st' s x => q1 dx σ F' H' (st'.untemp gn) s x
    | bad => exact fun q1 => q1
def fParEN (i j : Nat) (f h : Nv → R D) : Nv → R Fl := fun E => (f E).bind fun d E1 => (h E1).bind fun e E2 => .val .nx ((E2.set i (.fz d)).set j (.own e))
theorem fs_parEN {i j : Nat} {f h : Nv → R D} (k : PS X st (tPar i j (tCons (tG g W (relD g) f) (tCons (tN g W h) tNil)))) : FS X g W st (fParEN i j f h) := psImp k fun D σ H ⟨ρ, G, E, F, st, q⟩ =>
  bindS st q fun d E1 v F1 H1 st1 s1 r1 q1 => bindNS st1 q1 fun e E2 p o F2 H2 st2 gn ow s2 q2 =>
    ⟨v, .ref p, rfl, q2 _ F2 H2 ((st2.store (r1.mono s2)).take gn ow) (Same.refl _)⟩
def fParNN (i j : Nat) (f h : Nv → R D) : Nv → R Fl := fun E => (f E).bind fun d E1 => (h E1).bind fun e E2 => .val .nx ((E2.set i (.own d)).set j (.own e))
theorem fs_parNN {i j : Nat} {f h : Nv → R D} (k : PS X st (tPar i j (tCons (tN g W f) (tCons (tN g W h) tNil)))) : FS X g W st (fParNN i j f h) := psImp k fun D σ H ⟨ρ, G, E, F, st, q⟩ =>
  bindNS st q fun d E1 p o F1 H1 st1 gn ow s1 q1 => by
    refine ⟨ρ, _, E1, F1, st1, ?_⟩
    revert q1
    cases h E1 with
    | val e E2 =>
      refine fun q1 p2 o2 F2 H2 st2 gn2 ow2 s2 => ⟨.ref p, .ref p2, rfl, q1 _ F2 H2 ?_ s2⟩
      have ne : p2 ≠ p := fun z => by rw [z, upd_same] at gn2; cases gn2
      have comm : upd (upd G p o) p2 o2 = upd (upd G p2 o2) p o := by
        funext b
        unfold upd
        by_cases h1 : b = p <;> by_cases h2 : b = p2
        · exact absurd (h2.symm.trans h1) ne
        · rw [if_neg h2, if_pos h1, if_pos h1]
        · rw [if_pos h2, if_neg h1, if_pos h2]
        · rw [if_neg h2, if_neg h1, if_neg h1, if_neg h2]
      rw [comm] at st2
      have g2 : G p2 = none := by rw [upd_ne ne] at gn2; exact gn2
      exact (st2.take (by rw [upd_ne (Ne.symm ne)]; exact gn) (ow.mono s2)).take g2 ow2
    | exc c fs E' => exact fun q1 dx F' H' st' s x => q1 dx σ F' H' (st'.untemp gn) s x
    | bad => exact fun q1 => q1
end

/-! ## an owned list, written -/
def setIx (j : Nat) (d k : D) (E : Nv) : R Fl := match E[j]? with
  | some s => match s.cell, k with
    | some (.lst ds), .int i => match ixN ds.length i with
      | some m => .val .nx (E.set j (s.put (.lst (ds.set m d))))
      | none => .bad
    | _, _ => .bad
  | none => .bad
def fSetIx (j : Nat) (fi f : Nv → R D) : Nv → R Fl := fun E => (f E).bind fun d E1 => (fPk j E1).bind fun _ E2 => (fi E2).bind fun k E3 => setIx j d k E3
/-- a method of an owned slot's object: its content and the operands to its answer and the new content -/
def MtOk (g : Gm) (r : V → List V → Hp → VK → Prop) (o : D → List D → Option (D × D)) : Prop := ∀ (F H : Hp) (p : Addr) (ob : HO) (vs : List V) (d z d' : D) (ds : List D) (Q : VK), Same F H → F p = none → H p = some ob → OwnO g F d ob → RepL g F ds vs → o d ds = some (z, d') →
  (∀ w ob', OwnO g F d' ob' → Rep g F z w → Q w (upd H p ob')) → r (.ref p) vs H Q
def isLst : D → Bool
  | .lst _ => true
  | _ => false
def resMt (j : Nat) (o : D → List D → Option (D × D)) (as : List Ar) (E : Nv) : R D := match valsOf as with
  | none => .bad
  | some ds => match E[j]? with
    | none => .bad
    | some s => match s.cell with
      | none => .bad
      | some c => match o c ds with
        | none => .bad
        | some zc => .val zc.1 (E.set j (s.put zc.2))
def fMt (j : Nat) (o : D → List D → Option (D × D)) (fs : Nv → R (List Ar)) : Nv → R D := fun E => (fPk j E).bind fun _ E1 => match Ar.get E1 (.pk j) with
  | none => .bad
  | some c => if isLst c = true then (fs E1).bind fun as E2 => resMt j o as E2 else .bad
section
variable {X : Cx} {g : Gm} {W : WX} {e t : Expr} {es : List Expr} {pos : Pos} {st : Stmt}
theorem fPk_pk {j : Nat} {E E1 : Nv} {a : Ar} (h : fPk j E = .val a E1) : a = .pk j ∧ E1 = E := by
  unfold fPk at h
  split at h
  · split at h
    · cases h; exact ⟨rfl, rfl⟩
    · cases h
  · cases h
theorem fs_setIx {j : Nat} {fi f : Nv → R D} (h : PS X st (tAsg (tG g W (relD g) f) (gSub (tG g W (relA g) (fPk j)) (tG g W (relD g) fi) rSetL))) : FS X g W st (fSetIx j fi f) := psImp h fun D σ H ⟨ρ, G, E, F, st, q⟩ =>
  bindS st q fun d E1 v F1 H1 st1 s1 r1 q1 => by
    have pk : ∀ a E', fPk j E1 = .val a E' → a = .pk j := fun a E' z => (fPk_pk z).1
    refine ⟨ρ, G, E1, F1, st1, ?_⟩
    revert q1
    cases z : fPk j E1 with
    | exc c fs E' => exact fun q1 dx F' H' st' s x => q1 dx σ F' H' st' s x
    | bad => exact fun q1 => q1
    | val a E2 =>
      obtain ⟨rfl, rfl⟩ := fPk_pk z
      intro q1 x F2 H2 st2 s2 hx
      have hx : σ[j]? = some (some x) := hx
      refine bindS st2 (postS.mono s2 q1) fun k E3 iv F3 H3 st3 s3 r3 q3 => ?_
      unfold setIx at q3
      cases z : E3[j]? with
      | none => simp only [z] at q3; exact q3.elim
      | some s =>
        simp only [z] at q3
        cases c : s.cell with
        | none => simp only [c] at q3; exact q3.elim
        | some cd =>
          simp only [c] at q3
          cases cd with
          | lst ds =>
            cases k with
            | int i =>
              simp only at q3
              cases m : ixN ds.length i with
              | none => simp only [m] at q3; exact q3.elim
              | some mm =>
                simp only [m] at q3
                obtain ⟨p, y, fp, _, o, hp, xs, e0, rl⟩ := st3.at z c
                subst e0
                rw [hx] at y
                cases y
                obtain rfl : iv = .int i := r3
                exact ⟨p, xs, i, mm, rfl, rfl, hp, by rw [← rl.length]; exact m, q3 σ F3 _ (st3.write z c hx ⟨_, rfl, rl.set (r1.mono (s2.trans s3))⟩) (Same.refl _)⟩
            | _ => exact q3.elim
          | _ => exact q3.elim
theorem fe_mt {j : Nat} {r : V → List V → Hp → VK → Prop} {o : D → List D → Option (D × D)} {fs : Nv → R (List Ar)} (hr : MtOk g r o) (h : PE X e (tBM X.K "list" r (tG g W (relA g) (fPk j)) (tG g W (relAs g) fs))) : FE X g W e (fMt j o fs) :=
  peImp h fun σ H Q ⟨ρ, G, E, F, st, q⟩ => by
    refine ⟨ρ, G, E, F, st, ?_⟩
    unfold fMt at q
    revert q
    cases z : fPk j E with
    | exc c fs E' => exact fun q => q
    | bad => exact fun q => q
    | val a E1 =>
      obtain ⟨rfl, rfl⟩ := fPk_pk z
      intro q x F1 H1 st1 s1 hx
      have q : post g W (relD g) ρ G F σ Q (match Ar.get E1 (.pk j) with
        | none => .bad
        | some c => if isLst c = true then (fs E1).bind fun as E2 => resMt j o as E2 else .bad) := q
      cases z1 : Ar.get E1 (.pk j) with
      | none => simp only [z1] at q; exact q.elim
      | some c =>
        simp only [z1] at q
        have rh := ar_ok st1 (show ArOk g F1 σ (.pk j) x from hx) z1
        by_cases hc : isLst c = true
        · rw [if_pos hc] at q
          cases c with
          | lst ds =>
            obtain ⟨p, xs, rfl, hp, _⟩ := rh.lst st1.sf
            refine ⟨.inl ⟨rfl, xs, .of hp⟩, bindE st1 (post.mono s1 q) fun as E2 vs F2 H2 st2 s2 r2 q2 => ?_⟩
            unfold resMt at q2
            cases z2 : valsOf as with
            | none => simp only [z2] at q2; exact q2.elim
            | some es =>
              simp only [z2] at q2
              cases z3 : E2[j]? with
              | none => simp only [z3] at q2; exact q2.elim
              | some s =>
                simp only [z3] at q2
                cases z4 : s.cell with
                | none => simp only [z4] at q2; exact q2.elim
                | some c2 =>
                  simp only [z4] at q2
                  cases z5 : o c2 es with
                  | none => simp only [z5] at q2; exact q2.elim
                  | some zc =>
                    simp only [z5] at q2
                    obtain ⟨zz, c'⟩ := zc
                    obtain ⟨p2, y, fp, _, ob, hp2, ow⟩ := st2.at z3 z4
                    have hx' : σ[j]? = some (some (.ref p)) := hx
                    rw [hx'] at y
                    cases y
                    exact hr F2 H2 p ob vs c2 zz c' es Q st2.sf fp hp2 ow (valsOf_ok r2 z2) z5 fun w ob' ow' rw' => q2 w F2 _ (st2.write z3 z4 hx' ow') (Same.refl _) rw'
          | _ => simp [isLst] at hc
        · rw [if_neg hc] at q
          exact q.elim
theorem fe_mt0 {j : Nat} {r : V → List V → Hp → VK → Prop} {o : D → List D → Option (D × D)} (hr : MtOk g r o) (h : PE X e (tBM0 X.K "list" r (tG g W (relA g) (fPk j)))) : FE X g W e (fMt j o (fAs [])) :=
  peImp h fun σ H Q ⟨ρ, G, E, F, st, q⟩ => by
    refine ⟨ρ, G, E, F, st, ?_⟩
    unfold fMt at q
    revert q
    cases z : fPk j E with
    | exc c fs E' => exact fun q => q
    | bad => exact fun q => q
    | val a E1 =>
      obtain ⟨rfl, rfl⟩ := fPk_pk z
      intro q x F1 H1 st1 s1 hx
      have q : post g W (relD g) ρ G F σ Q (match Ar.get E1 (.pk j) with
        | none => .bad
        | some c => if isLst c = true then (fAs [] E1).bind fun as E2 => resMt j o as E2 else .bad) := q
      cases z1 : Ar.get E1 (.pk j) with
      | none => simp only [z1] at q; exact q.elim
      | some c =>
        simp only [z1] at q
        have rh := ar_ok st1 (show ArOk g F1 σ (.pk j) x from hx) z1
        by_cases hc : isLst c = true
        · rw [if_pos hc] at q
          cases c with
          | lst ds =>
            obtain ⟨p, xs, rfl, hp, _⟩ := rh.lst st1.sf
            refine ⟨.inl ⟨rfl, xs, .of hp⟩, ?_⟩
            have q2 : post g W (relD g) ρ G F1 σ Q (resMt j o [] E1) := post.mono s1 q
            unfold resMt at q2
            cases z2 : valsOf [] with
            | none => cases z2
            | some es =>
              simp only [z2] at q2
              cases z3 : E1[j]? with
              | none => simp only [z3] at q2; exact q2.elim
              | some s =>
                simp only [z3] at q2
                cases z4 : s.cell with
                | none => simp only [z4] at q2; exact q2.elim
                | some c2 =>
                  simp only [z4] at q2
                  cases z5 : o c2 es with
                  | none => simp only [z5] at q2; exact q2.elim
                  | some zc =>
                    simp only [z5] at q2
                    obtain ⟨zz, c'⟩ := zc
                    obtain ⟨p2, y, fp, _, ob, hp2, ow⟩ := st1.at z3 z4
                    have hx' : σ[j]? = some (some (.ref p)) := hx
                    rw [hx'] at y
                    cases y
                    cases z2
                    exact hr F1 H1 p ob [] c2 zz c' [] Q st1.sf fp hp2 ow rfl z5 fun w ob' ow' rw' => q2 w F1 _ (st1.write z3 z4 hx' ow') (Same.refl _) rw'
          | _ => simp [isLst] at hc
        · rw [if_neg hc] at q
          exact q.elim
end

/-! ## loops -/
structure Walks (g : Gm) (F : Hp) (J : It) (ds : List D) : Prop where
  goes : ∀ i H F2, Same F F2 → Same F2 H → i < ds.length → J.go i H
  stops : ∀ H F2, Same F F2 → Same F2 H → J.stop ds.length H
  yields : ∀ i H F2 x H', Same F F2 → Same F2 H → i < ds.length → J.yld i H x H' → ∃ d F3, ds[i]? = some d ∧ Grow g F2 H F3 H' ∧ Rep g F3 d x
def postI (g : Gm) (W : WX) (ρ : Nat → Addr) (G F : Hp) (σ : L2.St) (Q : It → Hp → Prop) : R (List D) → Prop
  | .val ds E' => ∀ J F' H', StOk g ρ G E' F' σ H' → Same F F' → Walks g F' J ds → Q J H'
  | .exc c fs E' => postX g W ρ G F σ c fs E'
  | .bad => False
def tI (g : Gm) (W : WX) (f : Nv → R (List D)) : TI := fun σ H Q => ∃ ρ G E F, StOk g ρ G E F σ H ∧ postI g W ρ G F σ Q (f E)
abbrev FI (X : Cx) (g : Gm) (W : WX) (tg e : Expr) (f : Nv → R (List D)) : Prop := PI X tg e (tI g W f)
def forL (b : Bd) (s : Nv → R Fl) : List D → Nv → R Fl
  | [], E => .val .nx E
  | d :: ds, E => match b d E with
    | none => .bad
    | some E1 => match s E1 with
      | .val .nx E2 => forL b s ds E2
      | .val .ct E2 => forL b s ds E2
      | .val .bk E2 => .val .nx E2
      | .val (.rt x) E2 => .val (.rt x) E2
      | .val (.rn x) E2 => .val (.rn x) E2
      | .exc c f E2 => .exc c f E2
      | .bad => .bad
def fFor (fi : Nv → R (List D)) (b : Bd) (s : Nv → R Fl) : Nv → R Fl := fun E => (fi E).bind fun ds E1 => forL b s ds E1
def whileN (t : Nv → R Bool) (s : Nv → R Fl) : Nat → Nv → R Fl
  | 0, _ => .bad
  | n + 1, E => (t E).bind fun k E1 => if k = true then (match s E1 with
      | .val .nx E2 => whileN t s n E2
      | .val .ct E2 => whileN t s n E2
      | .val .bk E2 => .val .nx E2
      | .val (.rt x) E2 => .val (.rt x) E2
      | .val (.rn x) E2 => .val (.rn x) E2
      | .exc c f E2 => .exc c f E2
      | .bad => .bad) else .val .nx E1
section
variable {X : Cx} {g : Gm} {W : WX} {e t : Expr} {es : List Expr} {pos : Pos} {st : Stmt}
theorem piImp {tg e : Expr} {r r' : TI} (h : PI X tg e r) (i : ∀ σ H Q, r' σ H Q → r σ H Q) : PI X tg e r' := ⟨fun pins s σ H Q I q => h.run pins s σ H Q I (i σ H Q q)⟩
theorem fs_for {fi : Nv → R (List D)} {b : Bd} {s : Nv → R Fl} (h : PS X st (tFor (tI g W fi) (tGt g b) (tS g W s))) : FS X g W st (fFor fi b s) := psImp h fun D σ H ⟨ρ, G, E, F, st, q⟩ => by
  refine ⟨ρ, G, E, F, st, ?_⟩
  unfold fFor at q
  revert q
  cases fi E with
  | exc c fs E' => exact fun q dx F' H' st' s x => q dx σ F' H' st' s x
  | bad => exact fun q => q
  | val ds E1 =>
    intro q J F1 H1 st1 s1 w
    have q : postS g W ρ G F D (forL b s ds E1) := q
    refine ⟨fun i m σ H => i ≤ ds.length ∧ m = ds.length - i ∧ ∃ F2 E2, StOk g ρ G E2 F2 σ H ∧ Same F1 F2 ∧ postS g W ρ G F2 D (forL b s (ds.drop i) E2), ⟨_, Nat.zero_le _, rfl, F1, E1, st1, Same.refl _, postS.mono s1 (by simpa using q)⟩, ?_⟩
    rintro i m σ2 H2 ⟨hi, rfl, F2, E2, st2, s2, q2⟩
    by_cases hlt : i < ds.length
    · refine .inr ⟨w.goes i H2 F2 s2 st2.sf hlt, fun σ' H' => i + 1 ≤ ds.length ∧ ∃ F2 E2, StOk g ρ G E2 F2 σ' H' ∧ Same F1 F2 ∧ postS g W ρ G F2 D (forL b s (ds.drop (i + 1)) E2), fun σ' H' ⟨a, r⟩ => ⟨ds.length - (i + 1), by omega, a, rfl, r⟩, fun x H3 y => ?_⟩
      obtain ⟨d, F3, hd, gr, r⟩ := w.yields i H2 F2 x H3 s2 st2.sf hlt y
      have hdrop : ds.drop i = d :: ds.drop (i + 1) := by
        rw [List.drop_eq_getElem_cons hlt]
        rw [List.getElem?_eq_getElem hlt] at hd
        rw [Option.some.inj hd]
      rw [hdrop] at q2
      unfold forL at q2
      cases z : b d E2 with
      | none => simp only [z] at q2; exact q2.elim
      | some E3 =>
        simp only [z] at q2
        refine ⟨ρ, G, E2, F3, d, gr.2 _ _ _ _ st2, r, E3, z, fun σ4 F4 H4 st4 s4 => ⟨ρ, G, E3, F4, st4, ?_⟩⟩
        have q3 := postS.mono (gr.1.trans s4) q2
        have s14 : Same F1 F4 := s2.trans (gr.1.trans s4)
        revert q3
        cases s E3 with
        | exc c f E5 => exact fun q => q
        | bad => exact fun q => q
        | val fl E5 =>
          cases fl with
          | nx => exact fun q σ5 F5 H5 st5 s5 => ⟨hlt, F5, E5, st5, s14.trans s5, postS.mono s5 q⟩
          | ct => exact fun q σ5 F5 H5 st5 s5 => ⟨hlt, F5, E5, st5, s14.trans s5, postS.mono s5 q⟩
          | bk => exact fun q => q
          | rt x => exact fun q => q
          | rn x => exact fun q => q
    · have e : i = ds.length := by omega
      subst e
      rw [List.drop_length] at q2
      exact .inl ⟨w.stops H2 F2 s2 st2.sf, q2 σ2 F2 H2 st2 (Same.refl _)⟩
theorem fs_while {ft : Nv → R Bool} {s : Nv → R Fl} (n : Nat) (h : PS X st (tWhile (tG g W relB ft) (tS g W s))) : FS X g W st (whileN ft s n) := psImp h fun D σ H ⟨ρ, G, E, F, st, q⟩ => by
  refine ⟨fun m σ H => ∃ E F, StOk g ρ G E F σ H ∧ postS g W ρ G F D (whileN ft s m E), ⟨n, E, F, st, q⟩, ?_⟩
  rintro m σ2 H2 ⟨E2, F2, st2, q2⟩
  cases m with
  | zero => exact q2.elim
  | succ m =>
    refine bindS st2 q2 fun k E3 c F3 H3 st3 s3 r3 q3 => ?_
    obtain rfl : k = c := r3
    cases k with
    | false => rw [if_neg Bool.false_ne_true]; exact q3 σ2 F3 H3 st3 (Same.refl _)
    | true =>
      rw [if_pos rfl]
      refine ⟨fun σ' H' => ∃ E F, StOk g ρ G E F σ' H' ∧ postS g W ρ G F D (whileN ft s m E), fun σ' H' r => ⟨m, Nat.lt_succ_self _, r⟩, ρ, G, E3, F3, st3, ?_⟩
      rw [if_pos rfl] at q3
      revert q3
      cases s E3 with
      | exc c f E5 => exact fun q => q
      | bad => exact fun q => q
      | val fl E5 =>
        cases fl with
        | nx => exact fun q σ5 F5 H5 st5 s5 => ⟨E5, F5, st5, postS.mono s5 q⟩
        | ct => exact fun q σ5 F5 H5 st5 s5 => ⟨E5, F5, st5, postS.mono s5 q⟩
        | bk => exact fun q => q
        | rt x => exact fun q => q
        | rn x => exact fun q => q
end

/-! ## comprehensions -/
def wipeE (E : Nv) : List Nat → Nv
  | [] => E
  | v :: vs => (wipeE E vs).set v .no
def keepF : Option Sl → Sl
  | some (.fz d) => .fz d
  | _ => .no
/-- behind the block: E2, but the block's names as they were in E1 -/
def restoreE (E1 E2 : Nv) : List Nat → Nv
  | [] => E2
  | v :: vs => (restoreE E1 E2 vs).set v (keepF E1[v]?)
def R.nox {α : Type} : R α → R α
  | .exc _ _ _ => .bad
  | r => r
def lcL (b : Bd) (t : Nv → R Bool) (f : Nv → R D) (vs : List Nat) : List D → List D → Nv → R (List D)
  | [], acc, E => .val acc E
  | d :: ds, acc, E => match b d E with
    | none => .bad
    | some E1 => (t E1).nox.bind fun k E2 => if k = true then (f E2).nox.bind fun x E3 => if acc.length < sizeLine then lcL b t f vs ds (acc ++ [x]) (wipeE E3 vs) else .bad else lcL b t f vs ds acc (wipeE E2 vs)
def fLc (fi : Nv → R (List D)) (b : Bd) (t : Nv → R Bool) (f : Nv → R D) (vs : List Nat) : Nv → R D := fun E => (fi E).bind fun ds E1 => (lcL b t f vs ds [] (wipeE E1 vs)).bind fun xs E2 => .val (.lst xs) (restoreE E1 E2 vs)
def tYesF : Nv → R Bool := fun E => .val true E
/-- nothing leaves -/
def W0 : WX := fun _ _ _ _ => False
theorem wipeE_length (E : Nv) : ∀ vs : List Nat, (wipeE E vs).length = E.length
  | [] => rfl
  | v :: vs => by unfold wipeE; rw [List.length_set, wipeE_length E vs]
theorem restoreE_length (E1 E2 : Nv) : ∀ vs : List Nat, (restoreE E1 E2 vs).length = E2.length
  | [] => rfl
  | v :: vs => by unfold restoreE; rw [List.length_set, restoreE_length E1 E2 vs]
theorem wipeE_get {E : Nv} {i : Nat} {s : Sl} : ∀ {vs : List Nat}, (wipeE E vs)[i]? = some s → (E[i]? = some s ∧ i ∉ vs) ∨ s = .no
  | [], h => .inl ⟨h, by simp⟩
  | v :: vs, h => by
    unfold wipeE at h
    by_cases hi : v = i
    · subst hi
      have hv := (List.getElem?_eq_some_iff.mp h).1
      rw [List.length_set] at hv
      rw [List.getElem?_set_self hv] at h
      exact .inr (Option.some.inj h).symm
    · rw [List.getElem?_set_ne hi] at h
      rcases wipeE_get h with ⟨a, b⟩ | a
      · exact .inl ⟨a, by simp only [List.mem_cons, not_or]; exact ⟨fun e => hi e.symm, b⟩⟩
      · exact .inr a
theorem restoreE_get {E1 E2 : Nv} {i : Nat} {s : Sl} : ∀ {vs : List Nat}, (restoreE E1 E2 vs)[i]? = some s → (E2[i]? = some s ∧ i ∉ vs) ∨ s = keepF E1[i]?
  | [], h => .inl ⟨h, by simp⟩
  | v :: vs, h => by
    unfold restoreE at h
    by_cases hi : v = i
    · subst hi
      have hv := (List.getElem?_eq_some_iff.mp h).1
      rw [List.length_set] at hv
      rw [List.getElem?_set_self hv] at h
      exact .inr (Option.some.inj h).symm
    · rw [List.getElem?_set_ne hi] at h
      rcases restoreE_get h with ⟨a, b⟩ | a
      · exact .inl ⟨a, by simp only [List.mem_cons, not_or]; exact ⟨fun e => hi e.symm, b⟩⟩
      · exact .inr a
theorem wipe_other {σ : L2.St} {i : Nat} : ∀ {vs : List Nat}, i ∉ vs → (wipe σ vs)[i]? = σ[i]?
  | [], _ => rfl
  | v :: vs, h => by
    unfold wipe
    simp only [List.mem_cons, not_or] at h
    rw [List.getElem?_set_ne (fun e => h.1 e.symm)]
    exact wipe_other h.2
section
variable {X : Cx} {g : Gm} {W : WX} {e t : Expr} {es : List Expr} {pos : Pos} {st : Stmt} {ρ : Nat → Addr} {G F H : Hp} {E : Nv} {σ : L2.St}
theorem StOk.wiped (st : StOk g ρ G E F σ H) (vs : List Nat) : StOk g ρ G (wipeE E vs) F (wipe σ vs) H := st.reslot (by rw [wipeE_length, wipe_length]; exact st.len) fun i s h => by
  rcases wipeE_get h with ⟨a, b⟩ | a
  · exact .inl ⟨a, wipe_other b⟩
  · exact .inr (.inl a)
/-- only the block's names changed -/
theorem StOk.wiped2 {σ2 : L2.St} (st : StOk g ρ G E F σ2 H) (vs : List Nat) (h : wipe σ2 vs = wipe σ vs) : StOk g ρ G (wipeE E vs) F (wipe σ vs) H := by
  rw [← h]; exact st.wiped vs
theorem StOk.restored {vs : List Nat} {E1 : Nv} {F1 G1 H1 : Hp} (st : StOk g ρ G E F (wipe σ vs) H) (st1 : StOk g ρ G1 E1 F1 σ H1) (sm : Same F1 F) : StOk g ρ G (restoreE E1 E vs) F σ H := st.reslot (by rw [restoreE_length, st.len, wipe_length]) fun i s h => by
  rcases restoreE_get h with ⟨a, b⟩ | a
  · exact .inl ⟨a, (wipe_other b).symm⟩
  · cases z : E1[i]? with
    | none => rw [z] at a; exact .inr (.inl a)
    | some u =>
      rw [z] at a
      cases u with
      | fz d =>
        obtain ⟨v, x, r⟩ := st1.fz i d z
        exact .inr (.inr ⟨d, v, a, x, r.mono sm⟩)
      | _ => exact .inr (.inl a)
/-- a target that changes the slots vs alone -/
def tGv (g : Gm) (vs : List Nat) (b : Bd) : TG := fun v σ H Q => ∃ ρ G E F d, StOk g ρ G E F σ H ∧ Rep g F d v ∧ ∃ E', b d E = some E' ∧ ∀ σ' F' H', StOk g ρ G E' F' σ' H' → Same F F' → wipe σ' vs = wipe σ vs → Q σ' H'
def tGvs (g : Gm) (vs : List Nat) (bs : List Bd) : TGs := fun ws σ H Q => ∃ ρ G E F ds, StOk g ρ G E F σ H ∧ RepL g F ds ws ∧ ∃ E', bAll bs ds E = some E' ∧ ∀ σ' F' H', StOk g ρ G E' F' σ' H' → Same F F' → wipe σ' vs = wipe σ vs → Q σ' H'
theorem wipe_get_in {σ : L2.St} {i : Nat} : ∀ {vs : List Nat}, i ∈ vs → i < σ.length → (wipe σ vs)[i]? = some none
  | v :: vs, h, hl => by
    unfold wipe
    by_cases e : v = i
    · subst e
      rw [List.getElem?_set_self (by rw [wipe_length]; exact hl)]
    · rw [List.getElem?_set_ne e]
      rcases List.mem_cons.mp h with z | z
      · exact absurd z.symm e
      · exact wipe_get_in z hl
theorem wipe_ext {σ σ' : L2.St} {vs : List Nat} (hl : σ'.length = σ.length) (h : ∀ i, i ∉ vs → σ'[i]? = σ[i]?) : wipe σ' vs = wipe σ vs := by
  apply List.ext_getElem?
  intro i
  by_cases hi : i ∈ vs
  · by_cases hlt : i < σ.length
    · rw [wipe_get_in hi hlt, wipe_get_in hi (by omega)]
    · rw [List.getElem?_eq_none (by rw [wipe_length]; omega), List.getElem?_eq_none (by rw [wipe_length]; omega)]
  · rw [wipe_other hi, wipe_other hi]
    exact h i hi
theorem wipe_set {σ : L2.St} {vs : List Nat} {i : Nat} {x : Option V} (h : i ∈ vs) : wipe (σ.set i x) vs = wipe σ vs :=
  wipe_ext (by simp) fun j hj => List.getElem?_set_ne fun e => hj (by rw [← e]; exact h)
theorem wipe_wipe {σ : L2.St} {vs : List Nat} : wipe (wipe σ vs) vs = wipe σ vs := wipe_ext (wipe_length _ _) fun _ hj => wipe_other hj
theorem fgv_name {i : Nat} {vs : List Nat} (hi : i ∈ vs) (h : PG X t (gName i)) : PG X t (tGv g vs (bName i)) := pgImp h fun v σ H Q ⟨ρ, G, E, F, d, st, r, E', e, q⟩ => by
  cases e
  exact q _ F H (st.store r) (Same.refl _) (wipe_set hi)
theorem fgvs_nil {vs : List Nat} : PGs X [] (tGvs g vs []) := pgsImp pgs_nil fun ws σ H Q ⟨ρ, G, E, F, ds, st, r, E', e, q⟩ => by
  cases ds with
  | nil => cases e; exact ⟨r, q σ F H st (Same.refl _) rfl⟩
  | cons d ds => cases e
theorem fgvs_cons {b : Bd} {bs : List Bd} {vs : List Nat} (h : PG X e (tGv g vs b)) (k : PGs X es (tGvs g vs bs)) (hs : (assignEach (e :: es) X.env).map (·.2) = assign e X.env :: (assignEach es X.env).map (·.2) := by rfl) : PGs X (e :: es) (tGvs g vs (b :: bs)) :=
  pgsImp (pgs_cons h k hs) fun ws σ H Q ⟨ρ, G, E, F, ds, st, r, E', e, q⟩ => by
    cases ds with
    | nil => cases e
    | cons d ds =>
      obtain ⟨x, xs, rfl, r1, r2⟩ := r
      obtain ⟨E1, e1, e2⟩ := Option.bind_eq_some_iff.mp e
      exact ⟨x, xs, rfl, ρ, G, E, F, d, st, r1, E1, e1, fun σ1 F1 H1 st1 s1 w1 => ⟨ρ, G, E1, F1, ds, st1, r2.mono s1, E', e2, fun σ' F' H' st' s' w' => q σ' F' H' st' (s1.trans s') (w'.trans w1)⟩⟩
theorem fgv_tup {bs : List Bd} {vs : List Nat} {k : Nat} (hc : X.calm = true) (h : PGs X es (tGvs g vs bs)) (hK : X.K = g.K) (hn : (assignEach es X.env).length = bs.length := by rfl) (hst : (assignEach es X.env).findIdx? (·.1) = none := by rfl) : PG X (.Tuple es k pos) (tGv g vs (bTup bs)) :=
  pgImp (pg_tup hc h hn hst) fun v σ H Q ⟨ρ, G, E, F, d, st, r, E', e, q⟩ => by
    cases d with
    | tup ds =>
      obtain ⟨a, xs, rfl, rx, rl⟩ := r
      refine ⟨a, xs, rfl, by rw [hK]; exact same_t st.sf rx, ?_, ρ, G, E, F, ds, st, rl, E', e, q⟩
      rw [← rl.length]; exact bAll_len e
    | _ => cases e
theorem noxE {α β γ : Type} {rel : Hp → L2.St → α → β → Prop} {f : Nv → R α} {k : α → Nv → R γ} {Q1 : β → Hp → Prop} (P : R γ → Prop) (h : P ((f E).nox.bind k)) (hb : ¬ P .bad) (st : StOk g ρ G E F σ H)
    (cont : ∀ a E1 b F1 H1, StOk g ρ G E1 F1 σ H1 → Same F F1 → rel F1 σ a b → P (k a E1) → Q1 b H1) : tG g W0 rel f σ H Q1 := by
  refine ⟨ρ, G, E, F, st, ?_⟩
  revert h
  cases f E with
  | val a E1 => exact fun h b F1 H1 st1 s1 r1 => cont a E1 b F1 H1 st1 s1 r1 h
  | exc c fs E' => exact fun h => absurd h hb
  | bad => exact fun h => absurd h hb
abbrev FTs (X : Cx) (g : Gm) (W : WX) (ifs : List Expr) (f : Nv → R Bool) : Prop := PTs X ifs (tG g W relB f)
theorem fts_nil : FTs X g W [] tYesF := ⟨fun pins s σ H Q I ⟨ρ, G, E, F, st, q⟩ => pts_nil.run pins s σ H Q I (q true F H st (Same.refl _) rfl)⟩
theorem fts_one {f : Nv → R Bool} (h : FT X g W e f) : FTs X g W [e] f := pts_one h
/-- what the walk of a comprehension asks -/
theorem le_lc {fi : Nv → R (List D)} {b : Bd} {tf : Nv → R Bool} {f : Nv → R D} {vs : List Nat} {σ : L2.St} {H : Hp} {Q : VK} (h : tN g W (fLc fi b tf f vs) σ H Q) : tLc (tI g W fi) (tGv g vs b) (tG g W0 relB tf) (tG g W0 (relD g) f) vs σ H Q := by
  obtain ⟨ρ, G, E, F, st, q⟩ := h
  refine ⟨ρ, G, E, F, st, ?_⟩
  unfold fLc at q
  revert q
  cases fi E with
  | exc c fs E' => exact fun q => q
  | bad => exact fun q => q
  | val ds E1 =>
    intro q J F1 H1 st1 s1 w D hD
    have q : postN g W ρ G F σ Q ((lcL b tf f vs ds [] (wipeE E1 vs)).bind fun xs E2 => .val (.lst xs) (restoreE E1 E2 vs)) := q
    have gD := st1.fG hD
    refine ⟨fun i m H => i ≤ ds.length ∧ m = ds.length - i ∧ ∃ F2 E2 acc xs, StOk g ρ (upd G D (.lst xs)) E2 F2 (wipe σ vs) H ∧ RepL g F2 acc xs ∧ Same F1 F2 ∧
      postN g W ρ G F2 σ Q ((lcL b tf f vs (ds.drop i) acc E2).bind fun xs E2 => .val (.lst xs) (restoreE E1 E2 vs)), ⟨_, Nat.zero_le _, rfl, F1, wipeE E1 vs, [], [], (st1.temp hD _).wiped vs, rfl, Same.refl _, postN.mono s1 (by simpa using q)⟩, ?_⟩
    rintro i m H2 ⟨hi, rfl, F2, E2, acc, xs, st2, ra, s2, q2⟩
    by_cases hlt : i < ds.length
    · refine .inr ⟨w.goes i H2 F2 s2 st2.sf hlt, fun H' => i + 1 ≤ ds.length ∧ ∃ F2 E2 acc xs, StOk g ρ (upd G D (.lst xs)) E2 F2 (wipe σ vs) H' ∧ RepL g F2 acc xs ∧ Same F1 F2 ∧
        postN g W ρ G F2 σ Q ((lcL b tf f vs (ds.drop (i + 1)) acc E2).bind fun xs E2 => .val (.lst xs) (restoreE E1 E2 vs)), fun H' ⟨a, r⟩ => ⟨ds.length - (i + 1), by omega, a, rfl, r⟩, fun x H3 y => ?_⟩
      obtain ⟨d, F3, hd, gr, r⟩ := w.yields i H2 F2 x H3 s2 st2.sf hlt y
      have hdrop : ds.drop i = d :: ds.drop (i + 1) := by
        rw [List.drop_eq_getElem_cons hlt]
        rw [List.getElem?_eq_getElem hlt] at hd
        rw [Option.some.inj hd]
      rw [hdrop] at q2
      unfold lcL at q2
      cases z : b d E2 with
      | none => simp only [z] at q2; exact q2.elim
      | some E3 =>
        simp only [z] at q2
        refine ⟨ρ, _, E2, F3, d, gr.2 _ _ _ _ st2, r, E3, z, fun σ4 F4 H4 st4 s4 w4 => ⟨w4.trans wipe_wipe, ?_⟩⟩
        rw [wipe_wipe] at w4
        have s14 : Same F2 F4 := gr.1.trans s4
        refine noxE (P := fun r : R (List FL.D) => postN g W ρ G F2 σ Q (r.bind fun xs E2 => .val (.lst xs) (restoreE E1 E2 vs))) q2 (fun h => h) st4 fun k E5 c F5 H5 st5 s5 r5 q5 => ?_
        obtain rfl : k = c := r5
        cases k with
        | false =>
          rw [if_neg Bool.false_ne_true] at q5 ⊢
          exact ⟨hlt, F5, _, acc, xs, st5.wiped2 vs w4, ra.mono (s14.trans s5), (s2.trans s14).trans s5, postN.mono (s14.trans s5) q5⟩
        | true =>
          rw [if_pos rfl] at q5 ⊢
          refine noxE (P := fun r : R (List FL.D) => postN g W ρ G F2 σ Q (r.bind fun xs E2 => .val (.lst xs) (restoreE E1 E2 vs))) q5 (fun h => h) st5 fun y E6 v F6 H6 st6 s6 r6 q6 => ?_
          by_cases hz : acc.length < sizeLine
          · rw [if_pos hz] at q6
            have s16 := (s14.trans s5).trans s6
            have hD6 : H6 D = some (.lst xs) := st6.sg _ _ upd_same
            refine ⟨xs, hD6, by rw [← ra.length]; exact hz, hlt, F6, _, acc ++ [y], xs ++ [v], (st6.rewrite gD).wiped2 vs w4, (ra.mono s16).append ⟨v, [], rfl, r6, rfl⟩, s2.trans s16, postN.mono s16 q6⟩
          · rw [if_neg hz] at q6
            exact q6.elim
    · have e : i = ds.length := by omega
      subst e
      rw [List.drop_length] at q2
      have q2 : postN g W ρ G F2 σ Q (.val (.lst acc) (restoreE E1 E2 vs)) := q2
      refine .inl ⟨w.stops H2 F2 s2 st2.sf, ?_⟩
      exact q2 D (.lst xs) F2 H2 (st2.restored st1 s2) gD ⟨xs, rfl, ra⟩ (Same.refl _)
theorem fn_lc {fi : Nv → R (List D)} {b : Bd} {tf : Nv → R Bool} {f : Nv → R D} {vs : List Nat} (h : PE X e (tLc (tI g W fi) (tGv g vs b) (tG g W0 relB tf) (tG g W0 (relD g) f) vs)) : FN X g W e (fLc fi b tf f vs) := peImp h fun _ _ _ q => le_lc q
/-- x = [..] -/
theorem fs_setLc {i : Nat} {fi : Nv → R (List D)} {b : Bd} {tf : Nv → R Bool} {f : Nv → R D} {vs : List Nat} (h : PS X st (tAsg (tLc (tI g W fi) (tGv g vs b) (tG g W0 relB tf) (tG g W0 (relD g) f) vs) (gName i))) : FS X g W st (fSetN i (fLc fi b tf f vs)) :=
  fs_setN (psImp h fun D σ H q => le_lc q)
end
end FL

namespace FL
open PySem PySem.Spec PyProof.Rows L2

/-! ## defs -/
inductive FR where
  | val (d : D) (bs : List Sl) | new (d : D) (bs : List Sl) | exc (c : Nat) (fs : Option (Str × D)) (bs : List Sl) | bad
abbrev Fn := List Sl → FR
def spF (g : Gm) (n : Nat) (fn : Fn) : Sp := fun vs H Q X => vs.length = n ∧ ∃ ρ G as F, StOk g ρ G as F (vs.map some) H ∧ match fn as with
  | .val d bs => ∀ v F' H', StOk g ρ G bs F' (vs.map some) H' → Same F F' → Rep g F' d v → Q v H'
  | .new d bs => ∀ p o F' H', StOk g ρ (upd G p o) bs F' (vs.map some) H' → G p = none → OwnO g F' d o → Same F F' → Q (.ref p) H'
  | .exc c fs bs => ∀ dx F' H', StOk g ρ G bs F' (vs.map some) H' → Same F F' → XRep g F' fs dx → X (.ref (g.xcl c)) dx H'
  | .bad => False
/-- what comes back of the arguments: the lent ones -/
def backs : List Sl → Nv → Option (List Sl)
  | [], _ => some []
  | .bor k _ :: as, .bor k' d' :: E => if k = k' then (match backs as E with
    | some b => some (.bor k d' :: b)
    | none => none) else none
  | .bor _ _ :: _, _ => none
  | _ :: as, _ :: E => match backs as E with
    | some b => some (.no :: b)
    | none => none
  | _ :: _, [] => none
def runF (N : Nat) (s : Nv → R Fl) : Fn := fun as => match s (as ++ List.replicate (N - as.length) .no) with
  | .val .nx E => match backs as E with
    | some b => .val .non b
    | none => .bad
  | .val (.rt d) E => match backs as E with
    | some b => .val d b
    | none => .bad
  | .val (.rn d) E => match backs as E with
    | some b => .new d b
    | none => .bad
  | .exc c fs E => match backs as E with
    | some b => .exc c fs b
    | none => .bad
  | _ => .bad
theorem backs_get : ∀ {as : List Sl} {E : Nv} {b : List Sl}, backs as E = some b → b.length = as.length ∧ ∀ (i : Nat) s, b[i]? = some s → s = .no ∨ ∃ k d d0, s = .bor k d ∧ E[i]? = some (.bor k d) ∧ as[i]? = some (.bor k d0)
  | [], E, b, h => by cases h; exact ⟨rfl, fun i s e => by simp at e⟩
  | a :: as, [], b, h => by
    cases a <;> simp [backs] at h
  | a :: as, e :: E, b, h => by
    have rest : ∀ {b'}, backs as E = some b' → ∀ x, (x = .no ∨ ∃ k d d0, x = .bor k d ∧ e = .bor k d ∧ a = .bor k d0) → b = x :: b' → b.length = (a :: as).length ∧ ∀ (i : Nat) s, b[i]? = some s → s = .no ∨ ∃ k d d0, s = .bor k d ∧ (e :: E)[i]? = some (.bor k d) ∧ (a :: as)[i]? = some (.bor k d0) := by
      intro b' hb x hx e1
      obtain ⟨l, g⟩ := backs_get hb
      subst e1
      refine ⟨by simp [l], fun i s es => ?_⟩
      cases i with
      | zero =>
        simp at es
        subst es
        rcases hx with z | ⟨k, d, d0, z1, z2, z3⟩
        · exact .inl z
        · exact .inr ⟨k, d, d0, z1, by simp [z2], by simp [z3]⟩
      | succ i =>
        rcases g i s (by simpa using es) with z | ⟨k, d, d0, z1, z2, z3⟩
        · exact .inl z
        · exact .inr ⟨k, d, d0, z1, by simpa using z2, by simpa using z3⟩
    have plain : (match backs as E with | some b => some (Sl.no :: b) | none => none) = some b → b.length = (a :: as).length ∧ ∀ (i : Nat) s, b[i]? = some s → s = .no ∨ ∃ k d d0, s = .bor k d ∧ (e :: E)[i]? = some (.bor k d) ∧ (a :: as)[i]? = some (.bor k d0) := by
      intro h
      cases q : backs as E with
      | none => simp [q] at h
      | some b' =>
        simp only [q, Option.some.injEq] at h
        exact rest q .no (.inl rfl) h.symm
    cases a with
    | bor k d0 =>
      cases e with
      | bor k' d =>
        unfold backs at h
        by_cases hk : k = k'
        · subst hk
          rw [if_pos rfl] at h
          cases q : backs as E with
          | none => simp [q] at h
          | some b' =>
            simp only [q, Option.some.injEq] at h
            exact rest q (.bor k d) (.inr ⟨k, d, d0, rfl, rfl, rfl⟩) h.symm
        · rw [if_neg hk] at h; cases h
      | _ => cases h
    | no => exact plain h
    | fz _ => exact plain h
    | own _ => exact plain h
section
variable {g : Gm} {ρ : Nat → Addr} {G F H G' F' H' : Hp} {E E' : Nv} {σ σ' : L2.St} {as bs : List Sl} {p : Addr} {o : HO}
theorem StOk.backs (st0 : StOk g ρ G as F σ H) (st' : StOk g ρ G' E' F' σ' H') (hb : FL.backs as E' = some bs) : StOk g ρ G' bs F' σ H' := by
  obtain ⟨hl, hg⟩ := backs_get hb
  obtain ⟨ps0, a1, a2, a3⟩ := st0.ow
  obtain ⟨ps, h1, h2, h3⟩ := st'.ow
  have look : ∀ {i : Nat} {s : Sl} {d : D}, bs[i]? = some s → s.cell = some d → ∃ k d0, s = .bor k d ∧ E'[i]? = some (.bor k d) ∧ as[i]? = some (.bor k d0) := fun {i s d} e c => by
    rcases hg i s e with z | ⟨k, d', d0, z1, z2, z3⟩
    · rw [z] at c; cases c
    · rw [z1] at c; cases c; exact ⟨k, d0, z1, z2, z3⟩
  refine ⟨st'.sf, st'.sg, st'.dj, by rw [hl]; exact st0.len, fun i d e => ?_, ps, fun i s d e c => ?_, fun i k d e => ?_, fun i j s t d e e1 c1 e2 c2 q => ?_⟩
  · rcases hg i _ e with z | ⟨k, d', d0, z1, _⟩
    · cases z
    · cases z1
  · obtain ⟨k, d0, rfl, z2, z3⟩ := look e c
    have w := h1 i _ d z2 rfl
    refine ⟨?_, w.2⟩
    rw [(a1 i _ d0 z3 rfl).1, a2 i k d0 z3, h2 i k d z2]
  · obtain ⟨k', d0, z1, z2, z3⟩ := look (d := d) e rfl
    cases z1
    exact h2 i k d z2
  · obtain ⟨k, d0, rfl, z2, _⟩ := look e1 c1
    obtain ⟨k', d1, rfl, z3, _⟩ := look e2 c2
    exact h3 i j _ _ _ _ z2 rfl z3 rfl q
theorem StOk.extend (st : StOk g ρ G as F σ H) (n : Nat) : StOk g ρ G (as ++ List.replicate n .no) F (σ ++ List.replicate n none) H := st.reslot (by simp [st.len]) fun i s h => by
  by_cases hi : i < as.length
  · rw [List.getElem?_append_left hi] at h
    exact .inl ⟨h, List.getElem?_append_left (by rw [← st.len]; exact hi)⟩
  · rw [List.getElem?_append_right (by omega)] at h
    exact .inr (.inl (List.eq_of_mem_replicate (List.mem_of_getElem? h)))
end
section
variable {P : Program} {w : World} {K : PySem.W.Frag} {mg : Str → Option Value} {base : Heap} {g : Gm}
/-- THE RULE for a def -/
theorem fn_ok {x qual : Str} {st : Stmt} {f : Addr} {fd : FuncData} {N ps : List Str} {k : Nat} (F : Fun K x qual st f fd) (S : FnScope N ps (defScope st)) (s : Nv → R Fl) (n : Nat) (hn : n = ps.length) (M : Nat) (hM : M = N.length)
    (hbody : ∀ (cdv : Value) (A : Around) (outer : List Env) (sh : Shared) (H : Hp) (E : XK), Room k (A.deeper (envOfC qual (defScope st) sh.heap.objs.size f cdv)) →
      FSs (cxOf (L2.CX P w) P w K mg base N qual (defScope st) f cdv A outer sh H E) g (fun cls d _ H => E cls d H) (defBody st) s) : FnOk P w K mg base (L2.CX P w) (k + 1) f fd ps (spF g n (runF M s)) := by
  subst hn hM
  refine F.okX S (fun vs H Q E h => h.1) (fun cdv A outer sh H vs Q E hr h => ⟨_, hbody cdv A outer sh H E hr, ?_⟩)
  obtain ⟨hl, ρ, G, as, Fz, st, q⟩ := h
  have st1 := st.extend (N.length - as.length)
  have la : as.length = vs.length := by rw [st.len]; simp
  refine ⟨ρ, G, as ++ List.replicate (N.length - as.length) .no, Fz, by unfold L2.start; rw [← la]; exact st1, ?_⟩
  unfold runF at q
  revert q
  cases s (as ++ List.replicate (N.length - as.length) .no) with
  | bad => exact fun q => q
  | exc c fs E' =>
    cases z : backs as E' with
    | none => simp only [z]; exact fun q => q.elim
    | some b => simp only [z]; exact fun q dx σ' F' H' st' ss xr => q dx F' H' (st.backs st' z) ss xr
  | val fl E' =>
    cases fl with
    | bk => exact fun q => q.elim
    | ct => exact fun q => q.elim
    | nx =>
      cases z : backs as E' with
      | none => simp only [z]; exact fun q => q.elim
      | some b => simp only [z]; exact fun q σ' F' H' st' ss => q .non F' H' (st.backs st' z) ss rfl
    | rt d =>
      cases z : backs as E' with
      | none => simp only [z]; exact fun q => q.elim
      | some b => simp only [z]; exact fun q v σ' F' H' st' ss r => q v F' H' (st.backs st' z) ss r
    | rn d =>
      cases z : backs as E' with
      | none => simp only [z]; exact fun q => q.elim
      | some b => simp only [z]; exact fun q p o σ' F' H' st' gn ow ss => q p o F' H' (st.backs st' z) gn ow ss
end

/-! ## calls -/
def lend (E : Nv) : Nat → List Ar → Option (List Sl)
  | _, [] => some []
  | m, .v d :: r => match lend E (m + 1) r with
    | some as => some (.fz d :: as)
    | none => none
  | m, .pk j :: r => match E[j]?, lend E (m + 1) r with
    | some (.fz d), some as => some (.fz d :: as)
    | some (.own d), some as => some (.bor m d :: as)
    | some (.bor _ d), some as => some (.bor m d :: as)
    | _, _ => none
def unlend : List Ar → List Sl → Nv → Nv
  | .pk j :: r, .bor _ d :: bs, E => unlend r bs (match E[j]? with
    | some s => E.set j (s.put d)
    | none => E)
  | _ :: r, _ :: bs, E => unlend r bs E
  | _, _, E => E
/-- no slot is lent twice -/
def once : List Ar → Bool
  | [] => true
  | .pk j :: r => !(r.any fun a => match a with
    | .pk i => i == j
    | _ => false) && once r
  | _ :: r => once r
/-- all that was lent comes back -/
def shape : List Sl → List Sl → Bool
  | [], [] => true
  | .bor _ _ :: a, .bor _ _ :: b => shape a b
  | .bor _ _ :: _, _ => false
  | _ :: a, _ :: b => shape a b
  | _, _ => false
theorem lend_get {E : Nv} : ∀ {ars : List Ar} {m : Nat} {as : List Sl}, lend E m ars = some as → as.length = ars.length ∧ ∀ (i : Nat) a, ars[i]? = some a → match a with
    | .v d => as[i]? = some (.fz d)
    | .pk j => (∃ d, E[j]? = some (.fz d) ∧ as[i]? = some (.fz d)) ∨ ∃ s d, E[j]? = some s ∧ s.cell = some d ∧ as[i]? = some (.bor (m + i) d)
  | [], m, as, h => by cases h; exact ⟨rfl, fun i a e => by simp at e⟩
  | a :: r, m, as, h => by
    have rest : ∀ {as'} {x : Sl}, lend E (m + 1) r = some as' → as = x :: as' → (match a with
        | .v d => x = .fz d
        | .pk j => (∃ d, E[j]? = some (.fz d) ∧ x = .fz d) ∨ ∃ s d, E[j]? = some s ∧ s.cell = some d ∧ x = .bor m d) → as.length = (a :: r).length ∧ ∀ (i : Nat) b, (a :: r)[i]? = some b → match b with
        | .v d => as[i]? = some (.fz d)
        | .pk j => (∃ d, E[j]? = some (.fz d) ∧ as[i]? = some (.fz d)) ∨ ∃ s d, E[j]? = some s ∧ s.cell = some d ∧ as[i]? = some (.bor (m + i) d) := by
      intro as' x hr e hx
      obtain ⟨l, g⟩ := lend_get hr
      subst e
      refine ⟨by simp [l], fun i b hb => ?_⟩
      cases i with
      | zero =>
        simp at hb
        subst hb
        cases a with
        | v d => simp only at hx ⊢; simp [hx]
        | pk j =>
          simp only at hx ⊢
          rcases hx with ⟨d, z1, z2⟩ | ⟨s, d, z1, z2, z3⟩
          · exact .inl ⟨d, z1, by simp [z2]⟩
          · exact .inr ⟨s, d, z1, z2, by simp [z3]⟩
      | succ i =>
        have := g i b (by simpa using hb)
        cases b with
        | v d => simpa using this
        | pk j =>
          simp only at this ⊢
          rcases this with ⟨d, z1, z2⟩ | ⟨s, d, z1, z2, z3⟩
          · exact .inl ⟨d, z1, by simpa using z2⟩
          · exact .inr ⟨s, d, z1, z2, by rw [show m + (i + 1) = m + 1 + i by omega]; simpa using z3⟩
    cases a with
    | v d =>
      unfold lend at h
      cases q : lend E (m + 1) r with
      | none => simp [q] at h
      | some as' =>
        simp only [q, Option.some.injEq] at h
        exact rest q h.symm rfl
    | pk j =>
      unfold lend at h
      cases q : lend E (m + 1) r with
      | none =>
        cases z : E[j]? with
        | none => simp [q, z] at h
        | some s => cases s <;> simp [q, z] at h
      | some as' =>
        cases z : E[j]? with
        | none => simp [q, z] at h
        | some s =>
          cases s with
          | no => simp [q, z] at h
          | fz d => simp only [q, z, Option.some.injEq] at h; exact rest q h.symm (.inl ⟨d, z, rfl⟩)
          | own d => simp only [q, z, Option.some.injEq] at h; exact rest q h.symm (.inr ⟨_, d, z, rfl, rfl⟩)
          | bor k d => simp only [q, z, Option.some.injEq] at h; exact rest q h.symm (.inr ⟨_, d, z, rfl, rfl⟩)
theorem put_put {s : Sl} {d e : D} : (s.put d).put e = s.put e := by cases s <;> rfl
theorem put_cell {s : Sl} {d e : D} (h : s.cell = some e) : (s.put d).cell = some d := by cases s <;> first | rfl | cases h
theorem put_cell' {s : Sl} {d e : D} (h : (s.put d).cell = some e) : e = d ∧ ∃ x, s.cell = some x := by
  cases s with
  | no => cases h
  | fz _ => cases h
  | own x => cases h; exact ⟨rfl, x, rfl⟩
  | bor k x => cases h; exact ⟨rfl, x, rfl⟩
theorem put_fz {s : Sl} {d e : D} (h : s.put d = .fz e) : s = .fz e := by cases s <;> first | exact h | cases h
theorem put_bor {s : Sl} {d e : D} {k : Nat} (h : s.put d = .bor k e) : e = d ∧ ∃ x, s = .bor k x := by
  cases s with
  | bor k' x => cases h; exact ⟨rfl, x, rfl⟩
  | _ => cases h
theorem unlend_get : ∀ {ars : List Ar} {bs : List Sl} {E : Nv} {j : Nat} {s : Sl}, (unlend ars bs E)[j]? = some s →
    ∃ s0, E[j]? = some s0 ∧ ((s = s0 ∧ ∀ (m k : Nat) d, ars[m]? = some (.pk j) → bs[m]? ≠ some (.bor k d)) ∨ ∃ (m k : Nat) (d : D), ars[m]? = some (.pk j) ∧ bs[m]? = some (.bor k d) ∧ s = s0.put d)
  | [], bs, E, j, s, h => ⟨s, by simpa [unlend] using h, .inl ⟨rfl, fun m k d e => by simp at e⟩⟩
  | a :: r, [], E, j, s, h => ⟨s, by cases a <;> simpa [unlend] using h, .inl ⟨rfl, fun m k d e => by simp⟩⟩
  | a :: r, b :: bs, E, j, s, h => by
    have skip : (∀ i k d, a = .pk i → b ≠ .bor k d) → (unlend r bs E)[j]? = some s → ∃ s0, E[j]? = some s0 ∧ ((s = s0 ∧ ∀ (m k : Nat) d, (a :: r)[m]? = some (.pk j) → (b :: bs)[m]? ≠ some (.bor k d)) ∨ ∃ (m k : Nat) (d : D), (a :: r)[m]? = some (.pk j) ∧ (b :: bs)[m]? = some (.bor k d) ∧ s = s0.put d) := by
      intro hab h
      obtain ⟨s0, e0, c⟩ := unlend_get h
      refine ⟨s0, e0, ?_⟩
      rcases c with ⟨e1, n⟩ | ⟨m, k, d, e1, e2, e3⟩
      · refine .inl ⟨e1, fun m k d e => ?_⟩
        cases m with
        | zero =>
          simp at e
          intro e'
          simp at e'
          exact hab j k d e e'
        | succ m => simpa using n m k d (by simpa using e)
      · exact .inr ⟨m + 1, k, d, by simpa using e1, by simpa using e2, e3⟩
    cases a with
    | v d0 => exact skip (fun _ _ _ e => nomatch e) (by cases b <;> simpa [unlend] using h)
    | pk i =>
      cases b with
      | bor k0 d0 =>
        unfold unlend at h
        obtain ⟨s0, e0, c⟩ := unlend_get h
        by_cases hij : i = j
        · subst hij
          cases z : E[i]? with
          | none => rw [z] at e0; simp only at e0; rw [z] at e0; cases e0
          | some t =>
            rw [z] at e0
            simp only at e0
            rw [List.getElem?_set_self (List.getElem?_eq_some_iff.mp z).1] at e0
            cases e0
            refine ⟨t, rfl, .inr ?_⟩
            rcases c with ⟨e1, n⟩ | ⟨m, k, d, e1, e2, e3⟩
            · exact ⟨0, k0, d0, rfl, rfl, e1⟩
            · exact ⟨m + 1, k, d, by simpa using e1, by simpa using e2, by rw [e3, put_put]⟩
        · have e0' : E[j]? = some s0 := by
            cases z : E[i]? with
            | none => rw [z] at e0; exact e0
            | some t => rw [z] at e0; simp only at e0; rw [List.getElem?_set_ne hij] at e0; exact e0
          refine ⟨s0, e0', ?_⟩
          rcases c with ⟨e1, n⟩ | ⟨m, k, d, e1, e2, e3⟩
          · refine .inl ⟨e1, fun m k d e => ?_⟩
            cases m with
            | zero => simp at e; exact absurd e hij
            | succ m => simpa using n m k d (by simpa using e)
          · exact .inr ⟨m + 1, k, d, by simpa using e1, by simpa using e2, e3⟩
      | no => exact skip (fun _ _ _ _ e => nomatch e) (by simpa [unlend] using h)
      | fz _ => exact skip (fun _ _ _ _ e => nomatch e) (by simpa [unlend] using h)
      | own _ => exact skip (fun _ _ _ _ e => nomatch e) (by simpa [unlend] using h)
theorem unlend_length : ∀ (ars : List Ar) (bs : List Sl) (E : Nv), (unlend ars bs E).length = E.length
  | [], _, _ => rfl
  | a :: r, [], E => by cases a <;> simp [unlend]
  | a :: r, b :: bs, E => by
    cases a with
    | v d => cases b <;> simpa [unlend] using unlend_length r bs E
    | pk i =>
      cases b with
      | bor k d =>
        unfold unlend
        rw [unlend_length]
        cases E[i]? <;> simp
      | _ => simpa [unlend] using unlend_length r bs E
theorem once_inj : ∀ {ars : List Ar}, once ars = true → ∀ (i i' j : Nat), ars[i]? = some (.pk j) → ars[i']? = some (.pk j) → i = i'
  | [], _, i, i', j, h, _ => by simp at h
  | a :: r, h, i, i', j, h1, h2 => by
    have hr : once r = true := by
      cases a with
      | v d => exact h
      | pk k => unfold once at h; rw [Bool.and_eq_true] at h; exact h.2
    have no : ∀ k m : Nat, a = .pk k → r[m]? ≠ some (.pk k) := by
      intro k m e e2
      subst e
      unfold once at h
      rw [Bool.and_eq_true, Bool.not_eq_true'] at h
      have := List.any_eq_false.mp h.1 _ (List.mem_of_getElem? e2)
      simp at this
    cases i with
    | zero =>
      cases i' with
      | zero => rfl
      | succ m => simp at h1 h2; exact absurd h2 (no j m h1)
    | succ n =>
      cases i' with
      | zero => simp at h1 h2; exact absurd h1 (no j n h2)
      | succ m => simp at h1 h2; rw [once_inj hr n m j h1 h2]
theorem shape_get : ∀ {as bs : List Sl}, shape as bs = true → ∀ (m k : Nat) d, as[m]? = some (.bor k d) → ∃ k' d', bs[m]? = some (.bor k' d')
  | [], _, _, m, k, d, h => by simp at h
  | a :: as, [], h, _, _, _, _ => by cases a <;> simp [shape] at h
  | a :: as, b :: bs, h, m, k, d, e => by
    have hr : shape as bs = true ∧ (∀ k d, a = .bor k d → ∃ k' d', b = .bor k' d') := by
      cases a with
      | bor k0 d0 =>
        cases b with
        | bor k1 d1 => exact ⟨h, fun _ _ _ => ⟨k1, d1, rfl⟩⟩
        | _ => cases h
      | _ => exact ⟨h, fun _ _ e => nomatch e⟩
    cases m with
    | zero =>
      simp at e
      obtain ⟨k', d', z⟩ := hr.2 k d e
      exact ⟨k', d', by simp [z]⟩
    | succ m =>
      obtain ⟨k', d', z⟩ := shape_get hr.1 m k d (by simpa using e)
      exact ⟨k', d', by simpa using z⟩
theorem ArsOk.get {g : Gm} {F : Hp} {σ : L2.St} : ∀ {ars : List Ar} {vs : List V} {i : Nat} {a : Ar}, ArsOk g F σ ars vs → ars[i]? = some a → ∃ v, vs[i]? = some v ∧ ArOk g F σ a v
  | [], _, _, _, _, h => by simp at h
  | b :: r, _, 0, a, ⟨x, xs, e, q, t⟩, h => by subst e; simp at h; subst h; exact ⟨x, rfl, q⟩
  | b :: r, _, i + 1, a, ⟨x, xs, e, q, t⟩, h => by
    subst e
    obtain ⟨v, z1, z2⟩ := ArsOk.get (i := i) t (by simpa using h)
    exact ⟨v, by simpa using z1, z2⟩
section
variable {g : Gm} {ρ : Nat → Addr} {G F H : Hp} {E : Nv} {σ : L2.St} {ars : List Ar} {as : List Sl} {vs : List V}
/-- the callee's view, and the way back -/
theorem lent (st : StOk g ρ G E F σ H) (ra : ArsOk g F σ ars vs) (hl : lend E 0 ars = some as) (ho : once ars = true) :
    ∃ (ρ' : Nat → Addr) (G' : Hp), StOk g ρ' G' as F (vs.map some) H ∧
      (∀ bs F' H', shape as bs = true → StOk g ρ' G' bs F' (vs.map some) H' → Same F F' → StOk g ρ G (unlend ars bs E) F' σ H') ∧
      (∀ bs F' H' p o, shape as bs = true → StOk g ρ' (upd G' p o) bs F' (vs.map some) H' → G' p = none → Same F F' → G p = none ∧ StOk g ρ (upd G p o) (unlend ars bs E) F' σ H') := by
  obtain ⟨ps, h1, h2, h3⟩ := st.ow
  obtain ⟨ll, lg⟩ := lend_get hl
  have lv : as.length = vs.length := by rw [ll, ra.length]
  haveI : ∀ q, Decidable (∃ (j : Nat) (s : Sl) (d : D), E[j]? = some s ∧ s.cell = some d ∧ ps j = q ∧ ∀ i : Nat, ars[i]? ≠ some (.pk j)) := fun q => Classical.propDecidable _
  let G' : Hp := fun q => if (∃ (j : Nat) (s : Sl) (d : D), E[j]? = some s ∧ s.cell = some d ∧ ps j = q ∧ ∀ i : Nat, ars[i]? ≠ some (.pk j)) then H q else G q
  have g'own : ∀ {j : Nat} {s : Sl} {d : D}, E[j]? = some s → s.cell = some d → (∀ i : Nat, ars[i]? ≠ some (.pk j)) → G' (ps j) = H (ps j) := fun {j s d} e c n => if_pos ⟨j, s, d, e, c, rfl, n⟩
  have g'lent : ∀ {j : Nat} {s : Sl} {d : D} {i : Nat}, E[j]? = some s → s.cell = some d → ars[i]? = some (.pk j) → G' (ps j) = none := fun {j s d i} e c hi => by
    have : G' (ps j) = G (ps j) := if_neg (fun ⟨j', s', d', e', c', q', n'⟩ => by
      have := h3 j' j s' s d' d e' c' e c q'
      subst this
      exact n' i hi)
    rw [this]
    exact (h1 j s d e c).2.2.1
  have g'G : ∀ {q : Addr} {o : HO}, G q = some o → G' q = some o := fun {q o} e => by
    have : G' q = G q := if_neg (fun ⟨j', s', d', e', c', q', n'⟩ => by
      have := (h1 j' s' d' e' c').2.2.1
      rw [q', e] at this
      cases this)
    rw [this]; exact e
  have g'cases : ∀ {q : Addr} {o : HO}, G' q = some o → H q = some o ∧ F q = none := fun {q o} e => by
    by_cases hq : ∃ (j : Nat) (s : Sl) (d : D), E[j]? = some s ∧ s.cell = some d ∧ ps j = q ∧ ∀ i : Nat, ars[i]? ≠ some (.pk j)
    · have e' : H q = some o := (if_pos hq).symm.trans e
      obtain ⟨j, s, d, e1, c1, q1, _⟩ := hq
      exact ⟨e', by rw [← q1]; exact (h1 j s d e1 c1).2.1⟩
    · have e' : G q = some o := (if_neg hq).symm.trans e
      exact ⟨st.sg _ _ e', st.dj _ _ e'⟩
  have vget : ∀ {i j : Nat} {s : Sl} {d : D}, ars[i]? = some (.pk j) → E[j]? = some s → s.cell = some d → (vs.map some)[i]? = some (some (.ref (ps j))) := fun {i j s d} ha e c => by
    obtain ⟨v, z1, z2⟩ := ra.get ha
    have z2 : σ[j]? = some (some v) := z2
    rw [(h1 j s d e c).1] at z2
    have : V.ref (ps j) = v := Option.some.inj (Option.some.inj z2)
    rw [List.getElem?_map, z1, ← this]
    rfl
  -- the callee's slots
  have argof : ∀ {i : Nat} {s : Sl}, as[i]? = some s → ∃ a, ars[i]? = some a := fun {i s} e => by
    have hi : i < ars.length := by rw [← ll]; exact (List.getElem?_eq_some_iff.mp e).1
    exact ⟨_, List.getElem?_eq_getElem hi⟩
  have look : ∀ {i : Nat} {s : Sl} {d : D}, as[i]? = some s → s.cell = some d → ∃ j t, ars[i]? = some (.pk j) ∧ E[j]? = some t ∧ t.cell = some d ∧ s = .bor i d := fun {i s d} e c => by
    obtain ⟨a, ha⟩ := argof e
    have z := lg i a ha
    cases a with
    | v x => simp only at z; rw [e] at z; cases z; cases c
    | pk j =>
      simp only at z
      rcases z with ⟨x, _, z⟩ | ⟨t, x, z1, z2, z3⟩
      · rw [e] at z; cases z; cases c
      · rw [e] at z3
        have := Option.some.inj z3
        subst this
        cases c
        exact ⟨j, t, ha, z1, z2, by rw [Nat.zero_add]⟩
  let jx : Nat → Nat := fun i => match ars[i]? with
    | some (.pk j) => j
    | _ => 0
  have jxe : ∀ {i j : Nat}, ars[i]? = some (.pk j) → jx i = j := fun {i j} e => by
    show (match ars[i]? with | some (.pk j) => j | _ => 0) = j
    rw [e]
  have callee : StOk g (fun i => ps (jx i)) G' as F (vs.map some) H := by
    refine ⟨st.sf, fun q o e => (g'cases e).1, fun q o e => (g'cases e).2, by simpa using lv, fun i d e => ?_, fun i => ps (jx i), fun i s d e c => ?_, fun i k d e => ?_, fun i i' s t d e e1 c1 e2 c2 q => ?_⟩
    · obtain ⟨a, ha⟩ := argof e
      obtain ⟨v, z1, z2⟩ := ra.get ha
      have z := lg i a ha
      cases a with
      | v x =>
        simp only at z
        rw [e] at z; cases z
        exact ⟨v, by rw [List.getElem?_map, z1]; rfl, z2⟩
      | pk j =>
        simp only at z
        rcases z with ⟨x, z3, z4⟩ | ⟨t, x, _, _, z4⟩
        · rw [e] at z4; cases z4
          have z2 : σ[j]? = some (some v) := z2
          obtain ⟨u, y1, y2⟩ := st.fz j d z3
          rw [z2] at y1; cases y1
          exact ⟨v, by rw [List.getElem?_map, z1]; rfl, y2⟩
        · rw [e] at z4; cases z4
    · obtain ⟨j, t, ha, e1, c1, rfl⟩ := look e c
      obtain ⟨w1, w2, w3, w4⟩ := h1 j t d e1 c1
      show (List.map some vs)[i]? = some (some (V.ref (ps (jx i)))) ∧ OwnAt g G' F H (ps (jx i)) d
      rw [jxe ha]
      exact ⟨vget ha e1 c1, w2, g'lent e1 c1 ha, w4⟩
    · obtain ⟨j, t, ha, e1, c1, z⟩ := look (d := d) e rfl
      cases z
      rfl
    · obtain ⟨j, u, ha, y1, y2, _⟩ := look e1 c1
      obtain ⟨j', u', ha', y1', y2', _⟩ := look e2 c2
      simp only [jxe ha, jxe ha'] at q
      have := h3 j j' u u' _ _ y1 y2 y1' y2' q
      subst this
      exact once_inj ho i i' j ha ha'
  -- an owned slot's object behind the call
  have after : ∀ (Gc : Hp) (bs : List Sl) (F' H' : Hp), (∀ q o, G' q = some o → Gc q = some o) → shape as bs = true → StOk g (fun i => ps (jx i)) Gc bs F' (vs.map some) H' → Same F F' → ∀ (j : Nat) s d, (unlend ars bs E)[j]? = some s → s.cell = some d →
      (∃ s0 d0, E[j]? = some s0 ∧ s0.cell = some d0 ∧ (∀ k, s = .bor k d → ∃ x, s0 = .bor k x)) ∧ F' (ps j) = none ∧ (∃ o, H' (ps j) = some o ∧ OwnO g F' d o) ∧ ((∃ o, G' (ps j) = some o) ∨ Gc (ps j) = none) := by
    intro Gc bs F' H' hG sh st' ss j s d e c
    obtain ⟨s0, e0, k⟩ := unlend_get e
    rcases k with ⟨rfl, n⟩ | ⟨m, k, x, y1, y2, rfl⟩
    · have notlent : ∀ i : Nat, ars[i]? ≠ some (.pk j) := fun i hi => by
        have z := lg i _ hi
        simp only at z
        rcases z with ⟨x, z1, _⟩ | ⟨t, x, z1, z2, z3⟩
        · rw [e0] at z1; cases z1; cases c
        · obtain ⟨k', d', z4⟩ := shape_get sh i _ _ z3
          exact n i k' d' hi z4
      obtain ⟨w1, w2, w3, o, w4, w5⟩ := h1 j s d e0 c
      have gj := g'own e0 c notlent
      rw [w4] at gj
      exact ⟨⟨s, d, e0, c, fun k z => ⟨d, z⟩⟩, st'.dj _ _ (hG _ _ gj), ⟨o, st'.sg _ _ (hG _ _ gj), w5.mono ss⟩, .inl ⟨o, gj⟩⟩
    · obtain ⟨rfl, x0, c0⟩ := put_cell' c
      obtain ⟨p, z1, z2, z3, z4⟩ := st'.at y2 rfl
      rw [vget y1 e0 c0] at z1
      have : ps j = p := by injection (Option.some.inj (Option.some.inj z1))
      subst this
      exact ⟨⟨s0, x0, e0, c0, fun k' z => (put_bor z).2⟩, z2, z4, .inr z3⟩
  have fzs : ∀ (bs : List Sl) (F' : Hp), Same F F' → ∀ (j : Nat) d, (unlend ars bs E)[j]? = some (.fz d) → ∃ v, σ[j]? = some (some v) ∧ Rep g F' d v := by
    intro bs F' ss j d e
    obtain ⟨s0, e0, k⟩ := unlend_get e
    have : s0 = .fz d := by
      rcases k with ⟨z, _⟩ | ⟨_, _, x, _, _, z⟩
      · exact z.symm
      · exact put_fz z.symm
    subst this
    obtain ⟨v, a, b⟩ := st.fz j d e0
    exact ⟨v, a, b.mono ss⟩
  refine ⟨fun i => ps (jx i), G', callee, fun bs F' H' sh st' ss => ?_, fun bs F' H' p o sh st' gp ss => ?_⟩
  · have af := after G' bs F' H' (fun _ _ z => z) sh st' ss
    refine ⟨st'.sf, fun q o e => st'.sg _ _ (g'G e), fun q o e => st'.dj _ _ (g'G e), by rw [unlend_length]; exact st.len, fzs bs F' ss, ps, fun j s d e c => ?_, fun j k d e => ?_, fun j j' s t d e e1 c1 e2 c2 q => ?_⟩
    · obtain ⟨⟨s0, d0, e0, c0, _⟩, f, own, _⟩ := af j s d e c
      exact ⟨(h1 j s0 d0 e0 c0).1, f, (h1 j s0 d0 e0 c0).2.2.1, own⟩
    · obtain ⟨⟨s0, d0, e0, c0, b⟩, _⟩ := af j _ d e rfl
      obtain ⟨x, rfl⟩ := b k rfl
      exact h2 j k x e0
    · obtain ⟨⟨s0, d0, e0, c0, _⟩, _⟩ := af j s d e1 c1
      obtain ⟨⟨t0, f0, e0', c0', _⟩, _⟩ := af j' t e e2 c2
      exact h3 j j' s0 t0 d0 f0 e0 c0 e0' c0' q
  · have gpn : G p = none := by
      cases z : G p with
      | none => rfl
      | some u => rw [g'G z] at gp; cases gp
    have hG : ∀ q o', G' q = some o' → (upd G' p o) q = some o' := fun q o' z => by rw [upd_ne (ne_of_none z gp)]; exact z
    have af := after (upd G' p o) bs F' H' hG sh st' ss
    have up : ∀ {q : Addr} {o' : HO}, (upd G p o) q = some o' → (upd G' p o) q = some o' := fun {q o'} e => by
      by_cases hq : q = p
      · subst hq; rw [upd_same] at e ⊢; exact e
      · rw [upd_ne hq] at e ⊢; exact g'G e
    refine ⟨gpn, st'.sf, fun q o e => st'.sg _ _ (up e), fun q o e => st'.dj _ _ (up e), by rw [unlend_length]; exact st.len, fzs bs F' ss, ps, fun j s d e c => ?_, fun j k d e => ?_, fun j j' s t d e e1 c1 e2 c2 q => ?_⟩
    · obtain ⟨⟨s0, d0, e0, c0, _⟩, f, own, alt⟩ := af j s d e c
      have ne : ps j ≠ p := by
        rcases alt with ⟨o', z⟩ | z
        · exact ne_of_none z gp
        · intro q; rw [q, upd_same] at z; cases z
      exact ⟨(h1 j s0 d0 e0 c0).1, f, by rw [upd_ne ne]; exact (h1 j s0 d0 e0 c0).2.2.1, own⟩
    · obtain ⟨⟨s0, d0, e0, c0, b⟩, _⟩ := af j _ d e rfl
      obtain ⟨x, rfl⟩ := b k rfl
      exact h2 j k x e0
    · obtain ⟨⟨s0, d0, e0, c0, _⟩, _⟩ := af j s d e1 c1
      obtain ⟨⟨t0, f0, e0', c0', _⟩, _⟩ := af j' t e e2 c2
      exact h3 j j' s0 t0 d0 f0 e0 c0 e0' c0' q
end
/-- a call's outcome -/
def resC (fn : Fn) (ars : List Ar) (E : Nv) : R D := match lend E 0 ars with
  | none => .bad
  | some as => if once ars = true then (match fn as with
    | .val d bs => if shape as bs = true then .val d (unlend ars bs E) else .bad
    | .exc c fs bs => if shape as bs = true then .exc c fs (unlend ars bs E) else .bad
    | _ => .bad) else .bad
def resCN (fn : Fn) (ars : List Ar) (E : Nv) : R D := match lend E 0 ars with
  | none => .bad
  | some as => if once ars = true then (match fn as with
    | .new d bs => if shape as bs = true then .val d (unlend ars bs E) else .bad
    | .exc c fs bs => if shape as bs = true then .exc c fs (unlend ars bs E) else .bad
    | _ => .bad) else .bad
def fCall (fn : Fn) (fs : Nv → R (List Ar)) : Nv → R D := fun E => (fs E).bind fun as E1 => resC fn as E1
def fCallN (fn : Fn) (fs : Nv → R (List Ar)) : Nv → R D := fun E => (fs E).bind fun as E1 => resCN fn as E1
section
variable {X : Cx} {g : Gm} {W : WX} {e : Expr} {n : Nat} {fn : Fn} {fs : Nv → R (List Ar)}
theorem resC_ok {ρ : Nat → Addr} {G F H : Hp} {E : Nv} {σ : L2.St} {ars : List Ar} {vs : List V} {Q : VK} (st : StOk g ρ G E F σ H) (ra : ArsOk g F σ ars vs) (hn : vs.length = n) (q : post g W (relD g) ρ G F σ Q (resC fn ars E)) : spF g n fn vs H Q (WE W σ) := by
  unfold resC at q
  cases z : lend E 0 ars with
  | none => simp only [z] at q; exact q.elim
  | some as =>
    simp only [z] at q
    by_cases ho : once ars = true
    · rw [if_pos ho] at q
      obtain ⟨ρ', G', st', back, _⟩ := lent st ra z ho
      refine ⟨hn, ρ', G', as, F, st', ?_⟩
      revert q
      cases fn as with
      | bad => exact fun q => q
      | new d bs => exact fun q => q.elim
      | val d bs =>
        simp only
        by_cases hs : shape as bs = true
        · rw [if_pos hs]; exact fun q v F' H' st2 ss r => q v F' H' (back bs F' H' hs st2 ss) ss r
        · rw [if_neg hs]; exact fun q => q.elim
      | exc c fs bs =>
        simp only
        by_cases hs : shape as bs = true
        · rw [if_pos hs]; exact fun q dx F' H' st2 ss r => q dx F' H' (back bs F' H' hs st2 ss) ss r
        · rw [if_neg hs]; exact fun q => q.elim
    · rw [if_neg ho] at q; exact q.elim
theorem resCN_ok {ρ : Nat → Addr} {G F H : Hp} {E : Nv} {σ : L2.St} {ars : List Ar} {vs : List V} {Q : VK} (st : StOk g ρ G E F σ H) (ra : ArsOk g F σ ars vs) (hn : vs.length = n) (q : postN g W ρ G F σ Q (resCN fn ars E)) : spF g n fn vs H Q (WE W σ) := by
  unfold resCN at q
  cases z : lend E 0 ars with
  | none => simp only [z] at q; exact q.elim
  | some as =>
    simp only [z] at q
    by_cases ho : once ars = true
    · rw [if_pos ho] at q
      obtain ⟨ρ', G', st', back, back2⟩ := lent st ra z ho
      refine ⟨hn, ρ', G', as, F, st', ?_⟩
      revert q
      cases fn as with
      | bad => exact fun q => q
      | val d bs => exact fun q => q.elim
      | new d bs =>
        simp only
        by_cases hs : shape as bs = true
        · rw [if_pos hs]
          intro q p o F' H' st2 gp ow ss
          obtain ⟨gn, st3⟩ := back2 bs F' H' p o hs st2 gp ss
          exact q p o F' H' st3 gn ow ss
        · rw [if_neg hs]; exact fun q => q.elim
      | exc c fs bs =>
        simp only
        by_cases hs : shape as bs = true
        · rw [if_pos hs]; exact fun q dx F' H' st2 ss r => q dx F' H' (back bs F' H' hs st2 ss) ss r
        · rw [if_neg hs]; exact fun q => q.elim
    · rw [if_neg ho] at q; exact q.elim
end
/-- operand lists of n -/
def fAsN (n : Nat) (fs : Nv → R (List Ar)) : Nv → R (List Ar) := fs
section
variable {X : Cx} {g : Gm} {W : WX} {e : Expr} {n : Nat} {fn : Fn} {fs : List (Nv → R Ar)}
theorem fAs_len : ∀ {fs : List (Nv → R Ar)} {E E' : Nv} {as : List Ar}, fAs fs E = .val as E' → as.length = fs.length
  | [], _, _, _, h => by cases h; rfl
  | f :: fs, E, E', as, h => by
    unfold fAs at h
    cases z : f E with
    | val a E1 =>
      simp only [z, R.bind] at h
      cases z2 : fAs fs E1 with
      | val as' E2 => simp only [z2, R.bind_val] at h; cases h; simp [fAs_len z2]
      | exc _ _ _ => simp only [z2] at h; cases h
      | bad => simp only [z2] at h; cases h
    | exc _ _ _ => simp only [z] at h; cases h
    | bad => simp only [z] at h; cases h
theorem bindA {γ δ : Type} {rel2 : Hp → L2.St → γ → δ → Prop} {ρ : Nat → Addr} {G F H : Hp} {E : Nv} {σ : L2.St} {k : List Ar → Nv → R γ} {Q2 : δ → Hp → Prop} {Q1 : List V → Hp → Prop} (st : StOk g ρ G E F σ H) (h : post g W rel2 ρ G F σ Q2 ((fAs fs E).bind k))
    (cont : ∀ a E1 b F1 H1, a.length = fs.length → StOk g ρ G E1 F1 σ H1 → Same F F1 → ArsOk g F1 σ a b → post g W rel2 ρ G F1 σ Q2 (k a E1) → Q1 b H1) : tG g W (relAs g) (fAs fs) σ H Q1 := by
  refine ⟨ρ, G, E, F, st, ?_⟩
  revert h
  cases z : fAs fs E with
  | val a E1 => exact fun h b F' H' st' s r => cont a E1 b F' H' (fAs_len z) st' s r (post.mono (r := k a E1) s h)
  | exc c fs E' => exact fun h => h
  | bad => exact fun h => h
theorem bindAN {ρ : Nat → Addr} {G F H : Hp} {E : Nv} {σ : L2.St} {k : List Ar → Nv → R D} {Q2 : VK} {Q1 : List V → Hp → Prop} (st : StOk g ρ G E F σ H) (h : postN g W ρ G F σ Q2 ((fAs fs E).bind k))
    (cont : ∀ a E1 b F1 H1, a.length = fs.length → StOk g ρ G E1 F1 σ H1 → Same F F1 → ArsOk g F1 σ a b → postN g W ρ G F1 σ Q2 (k a E1) → Q1 b H1) : tG g W (relAs g) (fAs fs) σ H Q1 := by
  refine ⟨ρ, G, E, F, st, ?_⟩
  revert h
  cases z : fAs fs E with
  | val a E1 => exact fun h b F' H' st' s r => cont a E1 b F' H' (fAs_len z) st' s r (postN.mono (r := k a E1) s h)
  | exc c fs E' => exact fun h => h
  | bad => exact fun h => h
/-- f(..) -/
theorem fe_call (h : PE X e (tCallS (spF g n fn) (WE W) (tG g W (relAs g) (fAs fs)))) (hn : fs.length = n) : FE X g W e (fCall fn (fAs fs)) := peImp h fun σ H Q ⟨ρ, G, E, F, st, q⟩ =>
  bindA st q fun a E1 b F1 H1 la st1 s1 r1 q1 => resC_ok st1 r1 (by rw [← r1.length, la, hn]) q1
theorem fn_call (h : PE X e (tCallS (spF g n fn) (WE W) (tG g W (relAs g) (fAs fs)))) (hn : fs.length = n) : FN X g W e (fCallN fn (fAs fs)) := peImp h fun σ H Q ⟨ρ, G, E, F, st, q⟩ =>
  bindAN st q fun a E1 b F1 H1 la st1 s1 r1 q1 => resCN_ok st1 r1 (by rw [← r1.length, la, hn]) q1
end
end FL

namespace FL
open PySem PySem.Spec PyProof.Rows L2

/-! ## data as the library's data -/
mutual
def toPy : D → Option PyData
  | .non => some .none
  | .bl b => some (.bool b)
  | .int i => some (.int i)
  | .str s => some (.str s)
  | .tup ds => (toPyL ds).map .tuple
  | .lst ds => (toPyL ds).map .list
  | _ => none
def toPyL : List D → Option (List PyData)
  | [] => some []
  | d :: ds => (toPy d).bind fun p => (toPyL ds).map (p :: ·)
end
section
variable {g : Gm} {F H : Hp}
mutual
theorem dp_of (sf : Same F H) : ∀ {d : D} {v : V} {p : PyData}, Rep g F d v → toPy d = some p → Dp g.K H v p
  | .non, _, _, h, e => by cases (show _ = V.non from h); cases e; exact .non
  | .bl b, _, _, h, e => by cases (show _ = V.bl b from h); cases e; exact .bl b
  | .int b, _, _, h, e => by cases (show _ = V.int b from h); cases e; exact .int b
  | .str b, _, _, h, e => by cases (show _ = V.str b from h); cases e; exact .str b
  | .tup ds, _, _, h, e => by
    obtain ⟨a, xs, rfl, q, r⟩ := h
    have e : (toPyL ds).map PyData.tuple = some _ := e
    obtain ⟨ps, e1, rfl⟩ := Option.map_eq_some_iff.mp e
    exact .tup (same_t sf q) (dpl_of sf r e1)
  | .lst ds, _, _, h, e => by
    obtain ⟨a, xs, rfl, q, r⟩ := h
    have e : (toPyL ds).map PyData.list = some _ := e
    obtain ⟨ps, e1, rfl⟩ := Option.map_eq_some_iff.mp e
    exact .lst (.of (sf _ _ q)) (dpl_of sf r e1)
  | .ins _ _ _, _, _, _, e => nomatch e
  | .scr _, _, _, _, e => nomatch e
  | .ty _, _, _, _, e => nomatch e
  | .cls _, _, _, _, e => nomatch e
  | .raw _, _, _, _, e => nomatch e
  | .emp, _, _, _, e => nomatch e
theorem dpl_of (sf : Same F H) : ∀ {ds : List D} {vs : List V} {ps : List PyData}, RepL g F ds vs → toPyL ds = some ps → DpAll g.K H vs ps
  | [], _, _, h, e => by cases (show _ = [] from h); cases e; exact .nil
  | d :: ds, _, _, h, e => by
    obtain ⟨x, xs, rfl, r, t⟩ := h
    have e : (toPy d).bind (fun p => (toPyL ds).map (p :: ·)) = some _ := e
    obtain ⟨p, e1, e2⟩ := Option.bind_eq_some_iff.mp e
    obtain ⟨ps, e3, rfl⟩ := Option.map_eq_some_iff.mp e2
    exact .cons (dp_of sf r e1) (dpl_of sf t e3)
end
theorem dp_ofH (sf : Same F H) {d : D} {v : V} {p : PyData} (h : RepH g F H d v) (e : toPy d = some p) : Dp g.K H v p := by
  rcases h with h | ⟨q, o, rfl, hq, ow⟩
  · exact dp_of sf h e
  · cases d with
    | lst ds =>
      obtain ⟨xs, rfl, r⟩ := ow
      have e : (toPyL ds).map PyData.list = some _ := e
      obtain ⟨ps, e1, rfl⟩ := Option.map_eq_some_iff.mp e
      exact .lst (.of hq) (dpl_of sf r e1)
    | ins _ _ _ => cases e
    | _ => exact ow.elim
end
/-- equality of data, where the library's rule reaches -/
def dEq (d e : D) : Option Bool := match toPy d, toPy e with
  | some p, some q => if SeqAt.shaped p = true ∧ SeqAt.shaped q = true then some (PyData.eqv p q) else none
  | _, _ => none
def oEq (d e : D) : Option D := (dEq d e).map .bl
def oNe (d e : D) : Option D := (dEq d e).map fun b => .bl (!b)
def itemsOf : D → Option (List D)
  | .lst ds => some ds
  | .tup ds => some ds
  | .scr ns => some (ns.map .int)
  | _ => none
/-- d in e -/
def dIn (d : D) : D → Option Bool
  | .lst es => match toPy d, toPyL es with
    | some p, some qs => if SeqAt.shaped p = true ∧ SeqAt.shaped (.list qs) = true then some (qs.any fun z => PyData.eqv z p) else none
    | _, _ => none
  | .tup es => match toPy d, toPyL es with
    | some p, some qs => if SeqAt.shaped p = true ∧ SeqAt.shaped (.list qs) = true then some (qs.any fun z => PyData.eqv z p) else none
    | _, _ => none
  | .str y => match d with
    | .str x => some (!(Builtin.Str.occurrences y x 0 y.length 1).isEmpty)
    | _ => none
  | _ => none
def oIn (d e : D) : Option D := (dIn d e).map .bl
def oNotIn (d e : D) : Option D := (dIn d e).map fun b => .bl (!b)

/-! ## two-place operations -/
theorem iteSome {α : Type} {c : Prop} [Decidable c] {a z : α} (h : (if c then some a else none) = some z) : c ∧ a = z := by
  by_cases hc : c
  · rw [if_pos hc] at h; exact ⟨hc, Option.some.inj h⟩
  · rw [if_neg hc] at h; cases h
theorem iteSomeO {α : Type} {c : Prop} [Decidable c] {o : Option α} {z : α} (h : (if c then o else none) = some z) : c ∧ o = some z := by
  by_cases hc : c
  · rw [if_pos hc] at h; exact ⟨hc, h⟩
  · rw [if_neg hc] at h; cases h
def oAdd : D → D → Option D
  | .int i, .int j => some (.int (i + j))
  | .str a, .str b => if a.length + b.length ≤ sizeLine then some (.str (a ++ b)) else none
  | .tup a, .tup b => if a.length + b.length ≤ sizeLine then some (.tup (a ++ b)) else none
  | .lst a, .lst b => if a.length + b.length ≤ sizeLine then some (.lst (a ++ b)) else none
  | _, _ => none
def oSub : D → D → Option D
  | .int i, .int j => some (.int (i - j))
  | _, _ => none
def B64 (i : Int) : Prop := -(2 ^ 64) < i ∧ i < 2 ^ 64
def B63 (i : Int) : Prop := -(2 ^ 63) ≤ i ∧ i < 2 ^ 63
def B62 (i : Int) : Prop := -(2 ^ 62) ≤ i ∧ i < 2 ^ 62
open Classical in
noncomputable def oMul : D → D → Option D
  | .int i, .int j => if B64 i ∨ B64 j then some (.int (i * j)) else none
  | .lst ds, .int k => if B63 k ∧ ds.length * k.toNat ≤ sizeLine then some (.lst (List.replicate k.toNat ds).flatten) else none
  | _, _ => none
def oDiv : D → D → Option D
  | .int i, .int j => if 0 < j ∧ j < 1073741824 then some (.int (i / j)) else none
  | _, _ => none
def oMod : D → D → Option D
  | .int i, .int j => if 0 < j then some (.int (i % j)) else none
  | _, _ => none
def oPow : D → D → Option D
  | .int i, .int j => if 0 ≤ j ∧ j ≤ 1000000 ∧ i.natAbs < 2 ^ 64 then some (.int (i ^ j.toNat)) else none
  | _, _ => none
def oAnd : D → D → Option D
  | .int i, .int j => some (.int (Builtin.bitAnd i j))
  | _, _ => none
def intsD : List D → Option (List Int)
  | [] => some []
  | .int i :: ds => match intsD ds with
    | some ns => some (i :: ns)
    | none => none
  | _ => none
def ltT (a b : List D) : Option D := match intsD a, intsD b with
  | some ns, some ms => some (.bl (HT.lexLt ns ms))
  | _, _ => none
def oLt0 : D → D → Option D
  | .int i, .int j => some (.bl (decide (i < j)))
  | .str a, .str b => some (.bl (decide (a.cps.toList < b.cps.toList)))
  | _, _ => none
def oLt : D → D → Option D
  | .int i, .int j => some (.bl (decide (i < j)))
  | .str a, .str b => some (.bl (decide (a.cps.toList < b.cps.toList)))
  | .tup a, .tup b => ltT a b
  | _, _ => none
def oLe : D → D → Option D
  | .int i, .int j => some (.bl (decide (i ≤ j)))
  | .str a, .str b => some (.bl (!decide (b.cps.toList < a.cps.toList)))
  | _, _ => none
def oGt : D → D → Option D
  | .int i, .int j => some (.bl (decide (j < i)))
  | .str a, .str b => some (.bl (decide (b.cps.toList < a.cps.toList)))
  | _, _ => none
def oGe : D → D → Option D
  | .int i, .int j => some (.bl (decide (j ≤ i)))
  | .str a, .str b => some (.bl (!decide (a.cps.toList < b.cps.toList)))
  | _, _ => none
def isNon : D → Option Bool
  | .non => some true
  | .raw _ => none
  | _ => some false
def oIsN (d e : D) : Option D := match e with
  | .non => (isNon d).map .bl
  | _ => none
def oNotN (d e : D) : Option D := match e with
  | .non => (isNon d).map fun b => .bl (!b)
  | _ => none
def dIx {α : Type} (xs : List α) (i : Int) : Option α := atI xs i
def oIx : D → D → Option D
  | .lst ds, .int i => atI ds i
  | .tup ds, .int i => atI ds i
  | .str z, .int i => if z.length ≤ sizeLine then (atI z.cps.toList i).map fun c => .str ⟨#[c]⟩ else none
  | _, _ => none
theorem atI_rep {g : Gm} {F : Hp} {ds : List D} {xs : List V} {i : Int} {d : D} (r : RepL g F ds xs) (h : atI ds i = some d) : ∃ v, atI xs i = some v ∧ Rep g F d v := by
  unfold atI at h ⊢
  obtain ⟨j, h1, h2⟩ := Option.bind_eq_some_iff.mp h
  obtain ⟨v, a, b⟩ := r.get h2
  exact ⟨v, Option.bind_eq_some_iff.mpr ⟨j, by rw [← r.length]; exact h1, a⟩, b⟩
section
variable {g : Gm} {X : Cx}
def rAddA (K : PySem.W.Frag) : R2 := fun x y H Q => (((rI0 fun i j => .int (i + j)) x y H Q ∨ ∃ i j, x = .str i ∧ y = .str j ∧ i.length + j.length ≤ sizeLine ∧ Q (.str (i ++ j)) H) ∨ rCatA K x y H Q) ∨ rCat x y H Q
theorem opr_add : OpR X (binaryOp .Add) (rAddA X.K) := ((op_add.or op_add_str).or op_catA).or op_cat
theorem op2_add (g : Gm) : Op2 g (rAddA g.K) oAdd := by
  intro F H v u d e z Q sf rd re ho k
  cases d <;> cases e <;> try (simp [oAdd] at ho; done)
  · rename_i i j
    simp only [oAdd, Option.some.injEq] at ho
    subst ho
    rw [rd.int, re.int]
    exact .inl (.inl (.inl ⟨i, j, rfl, rfl, k _ _ _ .refl rfl⟩))
  · rename_i a b
    obtain ⟨hl, rfl⟩ := iteSome ho
    rw [rd.str, re.str]
    exact .inl (.inl (.inr ⟨a, b, rfl, rfl, hl, k _ _ _ .refl rfl⟩))
  · rename_i a b
    obtain ⟨hl, rfl⟩ := iteSome ho
    obtain ⟨p, xs, rfl, hx, rx⟩ := rd.tup sf
    obtain ⟨q, ys, rfl, hy, ry⟩ := re.tup sf
    refine .inl (.inr ⟨p, q, xs, ys, rfl, rfl, hx, hy, by rw [← rx.length, ← ry.length]; exact hl, fun e0 => ?_, fun n0 e0 => ?_, fun _ _ r hr => ?_⟩)
    · subst e0
      have : a = [] := List.length_eq_zero_iff.mp (by rw [rx.length]; rfl)
      subst this
      have re' : Rep g F (.tup b) (.ref q) := by rcases re with h | ⟨_, _, _, _, h⟩; exact h; exact h.elim
      exact k _ F H .refl re'
    · subst e0
      have : b = [] := List.length_eq_zero_iff.mp (by rw [ry.length]; rfl)
      subst this
      rw [List.append_nil] at k
      have rd' : Rep g F (.tup a) (.ref p) := by rcases rd with h | ⟨_, _, _, _, h⟩; exact h; exact h.elim
      exact k _ F H .refl rd'
    · exact k _ _ _ (.new _ sf hr) ⟨r, _, rfl, .of upd_same, (rx.append ry).mono (Same.new (sf.free hr))⟩
  · rename_i a b
    obtain ⟨hl, rfl⟩ := iteSome ho
    obtain ⟨p, xs, rfl, hx, rx⟩ := rd.lst sf
    obtain ⟨q, ys, rfl, hy, ry⟩ := re.lst sf
    refine .inr ⟨p, q, xs, ys, rfl, rfl, hx, hy, by rw [← rx.length, ← ry.length]; exact hl, fun r hr => ?_⟩
    exact k _ _ _ (.new _ sf hr) ⟨r, _, rfl, upd_same, (rx.append ry).mono (Same.new (sf.free hr))⟩
/-- list + list, a new one -/
def oCat : D → D → Option D
  | .lst a, .lst b => if a.length + b.length ≤ sizeLine then some (.lst (a ++ b)) else none
  | _, _ => none
theorem op2n_cat (g : Gm) : Op2N g rCat oCat := by
  intro F H v u d e z Q sf rd re ho k
  cases d <;> cases e <;> try (simp [oCat] at ho; done)
  rename_i a b
  obtain ⟨hl, rfl⟩ := iteSome ho
  obtain ⟨p, xs, rfl, hx, rx⟩ := rd.lst sf
  obtain ⟨q, ys, rfl, hy, ry⟩ := re.lst sf
  exact ⟨p, q, xs, ys, rfl, rfl, hx, hy, by rw [← rx.length, ← ry.length]; exact hl, fun r hr => k r _ hr ⟨_, rfl, rx.append ry⟩⟩
open Classical in
noncomputable def oRep : D → D → Option D
  | .lst ds, .int k => if B63 k ∧ ds.length * k.toNat ≤ sizeLine then some (.lst (List.replicate k.toNat ds).flatten) else none
  | _, _ => none
open Classical in
theorem op2n_rep (g : Gm) : Op2N g rRep oRep := by
  intro F H v u d e z Q sf rd re ho k
  cases d <;> cases e <;> try (simp [oRep] at ho; done)
  rename_i ds i
  obtain ⟨hl, rfl⟩ := iteSome ho
  obtain ⟨p, xs, rfl, hx, rx⟩ := rd.lst sf
  rw [re.int]
  exact ⟨p, i, xs, rfl, rfl, hx, hl.1.1, hl.1.2, by rw [← rx.length]; exact hl.2, fun r hr => k r _ hr ⟨_, rfl, rx.rep _⟩⟩
theorem op2_sub (g : Gm) : Op2 g (rI0 fun i j => .int (i - j)) oSub := by
  intro F H v u d e z Q sf rd re ho k
  cases d <;> cases e <;> try (simp [oSub] at ho; done)
  simp only [oSub, Option.some.injEq] at ho
  subst ho
  rw [rd.int, re.int]
  exact ⟨_, _, rfl, rfl, k _ _ _ .refl rfl⟩
def rMulA : R2 := fun x y H Q => (rI CMul fun i j => .int (i * j)) x y H Q ∨ rRep x y H Q
theorem opr_mul : OpR X (binaryOp .Mult) rMulA := op_mul.or op_rep
open Classical in
theorem op2_mul (g : Gm) : Op2 g rMulA oMul := by
  intro F H v u d e z Q sf rd re ho k
  cases d <;> cases e <;> try (simp [oMul] at ho; done)
  · obtain ⟨hc, rfl⟩ := iteSome ho
    rw [rd.int, re.int]
    exact .inl ⟨_, _, rfl, rfl, hc, k _ _ _ .refl rfl⟩
  · rename_i ds i
    obtain ⟨hl, rfl⟩ := iteSome ho
    obtain ⟨p, xs, rfl, hx, rx⟩ := rd.lst sf
    rw [re.int]
    exact .inr ⟨p, i, xs, rfl, rfl, hx, hl.1.1, hl.1.2, by rw [← rx.length]; exact hl.2, fun r hr => k _ _ _ (.new _ sf hr) ⟨r, _, rfl, upd_same, (rx.rep _).mono (Same.new (sf.free hr))⟩⟩
theorem op2_div (g : Gm) : Op2 g (rI CDiv fun i j => .int (i / j)) oDiv := by
  intro F H v u d e z Q sf rd re ho k
  cases d <;> cases e <;> try (simp [oDiv] at ho; done)
  obtain ⟨hc, rfl⟩ := iteSome ho
  rw [rd.int, re.int]
  exact ⟨_, _, rfl, rfl, hc, k _ _ _ .refl rfl⟩
theorem op2_mod (g : Gm) : Op2 g (rI (fun _ j => 0 < j) fun i j => .int (i % j)) oMod := by
  intro F H v u d e z Q sf rd re ho k
  cases d <;> cases e <;> try (simp [oMod] at ho; done)
  obtain ⟨hc, rfl⟩ := iteSome ho
  rw [rd.int, re.int]
  exact ⟨_, _, rfl, rfl, hc, k _ _ _ .refl rfl⟩
theorem op2_pow (g : Gm) : Op2 g (rI CPow fun i j => .int (i ^ j.toNat)) oPow := by
  intro F H v u d e z Q sf rd re ho k
  cases d <;> cases e <;> try (simp [oPow] at ho; done)
  obtain ⟨hc, rfl⟩ := iteSome ho
  rw [rd.int, re.int]
  exact ⟨_, _, rfl, rfl, hc, k _ _ _ .refl rfl⟩
theorem op2_and (g : Gm) : Op2 g (rI0 fun i j => .int (Builtin.bitAnd i j)) oAnd := by
  intro F H v u d e z Q sf rd re ho k
  cases d <;> cases e <;> try (simp [oAnd] at ho; done)
  simp only [oAnd, Option.some.injEq] at ho
  subst ho
  rw [rd.int, re.int]
  exact ⟨_, _, rfl, rfl, k _ _ _ .refl rfl⟩
def rCmpA (p : Int → Int → Bool) (q : Str → Str → Bool) : R2 := fun x y H Q => (rI0 fun i j => .bl (p i j)) x y H Q ∨ ∃ i j, x = .str i ∧ y = .str j ∧ Q (.bl (q i j)) H
theorem op2_cmp (g : Gm) {p : Int → Int → Bool} {q : Str → Str → Bool} {o : D → D → Option D} (h1 : ∀ i j, o (.int i) (.int j) = some (.bl (p i j))) (h2 : ∀ i j, o (.str i) (.str j) = some (.bl (q i j)))
    (h3 : ∀ d e z, o d e = some z → (∃ i j, d = .int i ∧ e = .int j) ∨ ∃ i j, d = .str i ∧ e = .str j) : Op2 g (rCmpA p q) o := by
  intro F H v u d e z Q sf rd re ho k
  rcases h3 d e z ho with ⟨i, j, rfl, rfl⟩ | ⟨i, j, rfl, rfl⟩
  · rw [h1] at ho; cases ho
    rw [rd.int, re.int]
    exact .inl ⟨_, _, rfl, rfl, k _ _ _ .refl rfl⟩
  · rw [h2] at ho; cases ho
    rw [rd.str, re.str]
    exact .inr ⟨_, _, rfl, rfl, k _ _ _ .refl rfl⟩
def rLtA (K : PySem.W.Frag) : R2 := fun x y H Q => (rCmpA (fun i j => decide (i < j)) fun i j => decide (i.cps.toList < j.cps.toList)) x y H Q ∨ rLtT K x y H Q
theorem opr_lt (hu : X.A.units + 64 < cLine) : OpR X (compareOp .Lt) (rLtA X.K) := (op_lt.or op_lt_str).or (op_ltT (by omega))
theorem opr_le : OpR X (compareOp .LtE) (rCmpA (fun i j => decide (i ≤ j)) fun i j => !decide (j.cps.toList < i.cps.toList)) := op_le.or op_le_str
theorem opr_gt : OpR X (compareOp .Gt) (rCmpA (fun i j => decide (j < i)) fun i j => decide (j.cps.toList < i.cps.toList)) := op_gt.or op_gt_str
theorem opr_ge : OpR X (compareOp .GtE) (rCmpA (fun i j => decide (j ≤ i)) fun i j => !decide (i.cps.toList < j.cps.toList)) := op_ge.or op_ge_str
theorem op2_lt0 (g : Gm) : Op2 g (rCmpA (fun i j => decide (i < j)) fun i j => decide (i.cps.toList < j.cps.toList)) oLt0 := op2_cmp g (fun _ _ => rfl) (fun _ _ => rfl) fun d e z h => by
  cases d <;> cases e <;> first | exact .inl ⟨_, _, rfl, rfl⟩ | exact .inr ⟨_, _, rfl, rfl⟩ | cases h
theorem repl_intsD {g : Gm} {F : Hp} : ∀ {ds : List D} {ns : List Int} {xs : List V}, RepL g F ds xs → intsD ds = some ns → xs = ns.map V.int
  | [], ns, xs, r, e => by
    cases e
    exact r
  | d :: ds, ns, xs, r, e => by
    cases d with
    | int i =>
      rw [intsD] at e
      obtain ⟨x, ys, rfl, rx, ry⟩ := r
      cases z : intsD ds with
      | none => rw [z] at e; cases e
      | some ms =>
        rw [z] at e
        cases e
        rw [repl_intsD ry z]
        obtain rfl : x = .int i := rx
        rfl
    | _ => cases e
theorem op2_lt (g : Gm) : Op2 g (rLtA g.K) oLt := by
  intro F H v u d e z Q sf rd re ho k
  by_cases ht : ∃ a b, d = .tup a ∧ e = .tup b
  · obtain ⟨a, b, rfl, rfl⟩ := ht
    have ho : ltT a b = some z := ho
    unfold ltT at ho
    cases ha : intsD a with
    | none => rw [ha] at ho; cases ho
    | some ns =>
      cases hb : intsD b with
      | none => rw [ha, hb] at ho; cases ho
      | some ms =>
        rw [ha, hb] at ho
        cases ho
        obtain ⟨p, xs, rfl, hp, rp⟩ := rd.tup sf
        obtain ⟨q, ys, rfl, hq, rq⟩ := re.tup sf
        rw [repl_intsD rp ha] at hp
        rw [repl_intsD rq hb] at hq
        exact .inr ⟨p, q, ns, ms, rfl, rfl, hp, hq, k _ _ _ .refl rfl⟩
  · refine .inl (op2_lt0 g F H v u d e z Q sf rd re ?_ k)
    rw [← ho]
    cases d <;> cases e <;> first | rfl | exact (ht ⟨_, _, rfl, rfl⟩).elim
theorem op2_le (g : Gm) : Op2 g (rCmpA (fun i j => decide (i ≤ j)) fun i j => !decide (j.cps.toList < i.cps.toList)) oLe := op2_cmp g (fun _ _ => rfl) (fun _ _ => rfl) fun d e z h => by
  cases d <;> cases e <;> first | exact .inl ⟨_, _, rfl, rfl⟩ | exact .inr ⟨_, _, rfl, rfl⟩ | cases h
theorem op2_gt (g : Gm) : Op2 g (rCmpA (fun i j => decide (j < i)) fun i j => decide (j.cps.toList < i.cps.toList)) oGt := op2_cmp g (fun _ _ => rfl) (fun _ _ => rfl) fun d e z h => by
  cases d <;> cases e <;> first | exact .inl ⟨_, _, rfl, rfl⟩ | exact .inr ⟨_, _, rfl, rfl⟩ | cases h
theorem op2_ge (g : Gm) : Op2 g (rCmpA (fun i j => decide (j ≤ i)) fun i j => !decide (i.cps.toList < j.cps.toList)) oGe := op2_cmp g (fun _ _ => rfl) (fun _ _ => rfl) fun d e z h => by
  cases d <;> cases e <;> first | exact .inl ⟨_, _, rfl, rfl⟩ | exact .inr ⟨_, _, rfl, rfl⟩ | cases h
theorem op2_eq (g : Gm) : Op2 g (rEqD g.K) oEq := by
  intro F H v u d e z Q sf rd re ho k
  unfold oEq dEq at ho
  split at ho
  · rename_i p q hp hq
    split at ho
    · rename_i hs
      cases ho
      exact ⟨p, q, dp_ofH sf rd hp, dp_ofH sf re hq, hs.1, hs.2, k _ _ _ .refl rfl⟩
    · cases ho
  · cases ho
theorem op2_ne (g : Gm) : Op2 g (rNeD g.K) oNe := by
  intro F H v u d e z Q sf rd re ho k
  unfold oNe dEq at ho
  split at ho
  · rename_i p q hp hq
    split at ho
    · rename_i hs
      cases ho
      exact ⟨p, q, dp_ofH sf rd hp, dp_ofH sf re hq, hs.1, hs.2, k _ _ _ .refl rfl⟩
    · cases ho
  · cases ho
def rIsNA : R2 := fun x y H Q => y = .non ∧ Q (.bl (decide (x = .non))) H
def rNotNA : R2 := fun x y H Q => y = .non ∧ Q (.bl (!decide (x = .non))) H
theorem isNon_ok {F H : Hp} {d : D} {v : V} {b : Bool} (rd : RepH g F H d v) (h : isNon d = some b) : decide (v = .non) = b := by
  cases d with
  | non => cases h; rw [rd.non]; rfl
  | bl _ => cases h; rw [rd.bl]; rfl
  | int _ => cases h; rw [rd.int]; rfl
  | str _ => cases h; rw [rd.str]; rfl
  | ty _ => cases h; rw [rd.ty]; rfl
  | cls _ => cases h; rw [rd.cls]; rfl
  | raw _ => cases h
  | emp => cases h; rcases rd with ⟨a, e, _⟩ | ⟨_, _, _, _, e⟩; rw [e]; rfl; exact e.elim
  | tup _ => cases h; rcases rd with ⟨a, xs, e, _⟩ | ⟨_, _, _, _, e⟩; rw [e]; rfl; exact e.elim
  | scr _ => cases h; rcases rd with ⟨a, e, _⟩ | ⟨_, _, _, _, e⟩; rw [e]; rfl; exact e.elim
  | lst _ => cases h; rcases rd with ⟨a, xs, e, _⟩ | ⟨_, _, e, _⟩ <;> (rw [e]; rfl)
  | ins _ _ _ => cases h; rcases rd with ⟨a, dx, xs, e, _⟩ | ⟨_, _, e, _⟩ <;> (rw [e]; rfl)
theorem op2_isN (g : Gm) : Op2 g rIsNA oIsN := by
  intro F H v u d e z Q sf rd re ho k
  cases e <;> try (simp [oIsN] at ho; done)
  unfold oIsN at ho
  obtain ⟨b, h1, rfl⟩ := Option.map_eq_some_iff.mp ho
  exact ⟨re.non, by rw [isNon_ok rd h1]; exact k _ _ _ .refl rfl⟩
theorem op2_notN (g : Gm) : Op2 g rNotNA oNotN := by
  intro F H v u d e z Q sf rd re ho k
  cases e <;> try (simp [oNotN] at ho; done)
  unfold oNotN at ho
  obtain ⟨b, h1, rfl⟩ := Option.map_eq_some_iff.mp ho
  exact ⟨re.non, by rw [isNon_ok rd h1]; exact k _ _ _ .refl rfl⟩
/-! in -/
def rInT (K : PySem.W.Frag) : R2 := fun x y H Q => ∃ d ds, Dp K H x d ∧ Dp K H y (.tuple ds) ∧ SeqAt.shaped d = true ∧ SeqAt.shaped (.list ds) = true ∧ Q (.bl (ds.any fun z => PyData.eqv z d)) H
def rNotInT (K : PySem.W.Frag) : R2 := fun x y H Q => ∃ d ds, Dp K H x d ∧ Dp K H y (.tuple ds) ∧ SeqAt.shaped d = true ∧ SeqAt.shaped (.list ds) = true ∧ Q (.bl (!ds.any fun z => PyData.eqv z d)) H
theorem room_in' {u c : Nat} {d : PyData} {ds : List PyData} (hd : SeqAt.shaped d = true) (hu : u + 65 < c) : u + 1 + min (PyData.depthAll ds) d.depth < c := by
  have h1 : d.depth ≤ 64 := SeqAt.depth_of_shaped hd
  have h2 := Nat.min_le_right (PyData.depthAll ds) d.depth
  omega
theorem op_inT (hu : X.A.units + 65 < cLine) : OpR X (compareOp .In) (rInT X.K) := by
  intro pins s σ H x y v u Q I rx ry h
  obtain ⟨d, ds, hd, he, sd, se, q⟩ := h
  obtain ⟨as, r1⟩ := Dp.reads I d x v hd rx
  obtain ⟨bs, r2⟩ := Dp.reads I (.tuple ds) y u he ry
  exact SeqAt.in_tuple_reads r2 r1 (SeqAt.canLay_of_shaped se) (SeqAt.canLay_of_shaped sd) (room_in' sd hu) ⟨.bl _, H, I, rfl, q⟩
theorem op_notInT (hu : X.A.units + 65 < cLine) : OpR X (compareOp .NotIn) (rNotInT X.K) := by
  intro pins s σ H x y v u Q I rx ry h
  obtain ⟨d, ds, hd, he, sd, se, q⟩ := h
  obtain ⟨as, r1⟩ := Dp.reads I d x v hd rx
  obtain ⟨bs, r2⟩ := Dp.reads I (.tuple ds) y u he ry
  exact SeqAt.notIn_tuple_reads r2 r1 (SeqAt.canLay_of_shaped se) (SeqAt.canLay_of_shaped sd) (room_in' sd hu) ⟨.bl _, H, I, rfl, q⟩
def rInA (K : PySem.W.Frag) : R2 := fun x y H Q => (rInD K x y H Q ∨ rInT K x y H Q) ∨ ∃ i j, x = .str i ∧ y = .str j ∧ Q (.bl (!(Builtin.Str.occurrences j i 0 j.length 1).isEmpty)) H
def rNotInA (K : PySem.W.Frag) : R2 := fun x y H Q => (rNotInD K x y H Q ∨ rNotInT K x y H Q) ∨ ∃ i j, x = .str i ∧ y = .str j ∧ Q (.bl (!(!(Builtin.Str.occurrences j i 0 j.length 1).isEmpty))) H
theorem opr_in (hu : X.A.units + 65 < cLine) : OpR X (compareOp .In) (rInA X.K) := ((op_inD hu).or (op_inT hu)).or op_in_str
theorem opr_notIn (hu : X.A.units + 65 < cLine) : OpR X (compareOp .NotIn) (rNotInA X.K) := ((op_notInD hu).or (op_notInT hu)).or op_notin_str
theorem dIn_ok {F H : Hp} {v u : V} {d e : D} {b : Bool} (sf : Same F H) (rd : RepH g F H d v) (re : RepH g F H e u) (h : dIn d e = some b) :
    ((∃ p ds, Dp g.K H v p ∧ Dp g.K H u (.list ds) ∧ SeqAt.shaped p = true ∧ SeqAt.shaped (.list ds) = true ∧ (ds.any fun z => PyData.eqv z p) = b) ∨ (∃ p ds, Dp g.K H v p ∧ Dp g.K H u (.tuple ds) ∧ SeqAt.shaped p = true ∧ SeqAt.shaped (.list ds) = true ∧ (ds.any fun z => PyData.eqv z p) = b)) ∨
      ∃ i j, v = .str i ∧ u = .str j ∧ (!(Builtin.Str.occurrences j i 0 j.length 1).isEmpty) = b := by
  unfold dIn at h
  cases e with
  | lst es =>
    simp only at h
    split at h
    · rename_i p qs hp hq
      split at h
      · rename_i hs
        cases h
        exact .inl (.inl ⟨p, qs, dp_ofH sf rd hp, dp_ofH sf re (by show (toPyL es).map PyData.list = _; rw [hq]; rfl), hs.1, hs.2, rfl⟩)
      · cases h
    · cases h
  | tup es =>
    simp only at h
    split at h
    · rename_i p qs hp hq
      split at h
      · rename_i hs
        cases h
        exact .inl (.inr ⟨p, qs, dp_ofH sf rd hp, dp_ofH sf re (by show (toPyL es).map PyData.tuple = _; rw [hq]; rfl), hs.1, hs.2, rfl⟩)
      · cases h
    · cases h
  | str y =>
    simp only at h
    cases d <;> try (simp at h; done)
    cases h
    exact .inr ⟨_, y, rd.str, re.str, rfl⟩
  | _ => cases h
theorem op2_in (g : Gm) : Op2 g (rInA g.K) oIn := by
  intro F H v u d e z Q sf rd re ho k
  unfold oIn at ho
  obtain ⟨b, h1, rfl⟩ := Option.map_eq_some_iff.mp ho
  have q := k (.bl b) _ _ .refl rfl
  rcases dIn_ok sf rd re h1 with (⟨p, ds, a1, a2, a3, a4, rfl⟩ | ⟨p, ds, a1, a2, a3, a4, rfl⟩) | ⟨i, j, a1, a2, rfl⟩
  · exact .inl (.inl ⟨p, ds, a1, a2, a3, a4, q⟩)
  · exact .inl (.inr ⟨p, ds, a1, a2, a3, a4, q⟩)
  · exact .inr ⟨i, j, a1, a2, q⟩
theorem op2_notIn (g : Gm) : Op2 g (rNotInA g.K) oNotIn := by
  intro F H v u d e z Q sf rd re ho k
  unfold oNotIn at ho
  obtain ⟨b, h1, rfl⟩ := Option.map_eq_some_iff.mp ho
  have q := k (.bl (!b)) _ _ .refl rfl
  rcases dIn_ok sf rd re h1 with (⟨p, ds, a1, a2, a3, a4, rfl⟩ | ⟨p, ds, a1, a2, a3, a4, rfl⟩) | ⟨i, j, a1, a2, rfl⟩
  · exact .inl (.inl ⟨p, ds, a1, a2, a3, a4, q⟩)
  · exact .inl (.inr ⟨p, ds, a1, a2, a3, a4, q⟩)
  · exact .inr ⟨i, j, a1, a2, q⟩
theorem op2_ix (g : Gm) : Op2 g (rIx g.K) oIx := by
  intro F H v u d e z Q sf rd re ho k
  cases d <;> cases e <;> try (simp [oIx] at ho; done)
  · rename_i z' i
    obtain ⟨hl, ho⟩ := iteSomeO ho
    obtain ⟨c, h1, rfl⟩ := Option.map_eq_some_iff.mp ho
    rw [rd.str, re.int]
    exact .inr (.inr ⟨z', i, c, rfl, rfl, hl, h1, k _ _ _ .refl rfl⟩)
  · rename_i ds i
    obtain ⟨p, xs, rfl, hx, rx⟩ := rd.tup sf
    obtain ⟨w, h1, h2⟩ := atI_rep rx ho
    rw [re.int]
    exact .inr (.inl ⟨p, xs, i, w, rfl, rfl, hx, h1, k _ _ _ .refl h2⟩)
  · rename_i ds i
    obtain ⟨p, xs, rfl, hx, rx⟩ := rd.lst sf
    obtain ⟨w, h1, h2⟩ := atI_rep rx ho
    rw [re.int]
    exact .inl ⟨p, xs, i, w, rfl, rfl, .of hx, h1, k _ _ _ .refl h2⟩
end

/-! ## argument lists -/
def oLen : List D → Option D
  | [.lst ds] => if ds.length ≤ sizeLine then some (.int ds.length) else none
  | [.tup ds] => if ds.length ≤ sizeLine then some (.int ds.length) else none
  | [.scr ns] => if ns.length ≤ sizeLine then some (.int ns.length) else none
  | [.str z] => if z.length ≤ sizeLine then some (.int z.length) else none
  | _ => none
def asBs : List D → Option (List Bool)
  | [] => some []
  | .bl b :: r => (asBs r).map (b :: ·)
  | _ => none
def oAll : List D → Option D
  | [.lst ds] => (asBs ds).map fun bs => .bl (bs.all id)
  | _ => none
def oAny : List D → Option D
  | [.lst ds] => (asBs ds).map fun bs => .bl (bs.any id)
  | _ => none
def oTuple : List D → Option D
  | [.lst ds] => some (.tup ds)
  | [.tup ds] => some (.tup ds)
  | _ => none
def oList : List D → Option D
  | [.lst ds] => some (.lst ds)
  | [.tup ds] => some (.lst ds)
  | [.scr ns] => some (.lst (ns.map .int))
  | _ => none
def oInt : List D → Option D
  | [.int i] => some (.int i)
  | [.bl b] => some (.int (if b then 1 else 0))
  | _ => none
def oAbs : List D → Option D
  | [.int i] => some (.int (if i < 0 then -i else i))
  | _ => none
def oMin2 : List D → Option D
  | [.int i, .int j] => some (.int (if j < i then j else i))
  | _ => none
def oMax2 : List D → Option D
  | [.int i, .int j] => some (.int (if j > i then j else i))
  | _ => none
def tyName : D → Option String
  | .non => some "NoneType"
  | .bl _ => some "bool"
  | .int _ => some "int"
  | .str _ => some "str"
  | .tup _ => some "tuple"
  | .lst _ => some "list"
  | .scr _ => some "list"
  | .emp => some "dict"
  | .ins _ _ _ => some "own"
  | _ => none
def isIns : D → Bool
  | .ins _ _ _ => true
  | _ => false
def subTy (a b : String) : Bool := a == b || (a == "bool" && b == "int")
def tys : List String := ["NoneType", "bool", "int", "str", "tuple", "list", "dict"]
def tgs : List String := ["bool", "int", "str", "tuple", "list", "dict"]
theorem kitB_tys : ∀ a ∈ tys, ∀ b ∈ tgs, kitB a b = some (subTy a b) := by decide +kernel
/-- isinstance of a thing for one class (N: how many own classes there are) -/
def isiOne (N : Nat) (x : D) : D → Option Bool
  | .ty T => match tyName x with
    | some t => if tgs.contains T = true then some (subTy t T) else none
    | none => none
  | .cls c => match x with
    | .ins c' _ _ => if c = c' then some true else (if c < N ∧ c' < N then some false else none)
    | x => match tyName x with
      | some _ => some false
      | none => none
  | _ => none
def oIsi (N : Nat) : List D → Option D
  | [x, c] => (isiOne N x c).map .bl
  | _ => none
section
variable {g : Gm} {X : Cx}
theorem opL_len (g : Gm) : OpL g (fun xs H Q => (∃ p ys, xs = [.ref p] ∧ (SqL g.K H p ys ∨ SqT g.K H p ys) ∧ Q (.int ys.length) H) ∨ ∃ z, xs = [.str z] ∧ z.length ≤ sizeLine ∧ Q (.int z.length) H) oLen := by
  intro F H vs ds z Q sf r ho k
  unfold oLen at ho
  split at ho
  · split at ho
    · cases ho
      obtain ⟨x, rfl, rx⟩ := r.one
      obtain ⟨p, xs, rfl, hx, rl⟩ := rx.lst sf
      exact .inl ⟨p, xs, rfl, .inl (.of hx), by rw [← rl.length]; exact k _ _ _ .refl rfl⟩
    · cases ho
  · split at ho
    · cases ho
      obtain ⟨x, rfl, rx⟩ := r.one
      obtain ⟨p, xs, rfl, hx, rl⟩ := rx.tup sf
      exact .inl ⟨p, xs, rfl, .inr hx, by rw [← rl.length]; exact k _ _ _ .refl rfl⟩
    · cases ho
  · split at ho
    · cases ho
      obtain ⟨x, rfl, rx⟩ := r.one
      obtain ⟨p, rfl, hx⟩ := rx.scr sf
      exact .inl ⟨p, _, rfl, .inl hx, by rw [List.length_map]; exact k _ _ _ .refl rfl⟩
    · cases ho
  · split at ho
    · rename_i hz
      cases ho
      obtain ⟨x, rfl, rx⟩ := r.one
      rw [rx.str]
      exact .inr ⟨_, rfl, hz, k _ _ _ .refl rfl⟩
    · cases ho
  · cases ho
theorem callr_len : CallR X (.builtin "len") (fun xs H Q => (∃ p ys, xs = [.ref p] ∧ (SqL X.K H p ys ∨ SqT X.K H p ys) ∧ Q (.int ys.length) H) ∨ ∃ z, xs = [.str z] ∧ z.length ≤ sizeLine ∧ Q (.int z.length) H) := call_len_seq.or call_len_str
theorem asBs_ok {F : Hp} : ∀ {ds : List D} {vs : List V} {bs : List Bool}, RepL g F ds vs → asBs ds = some bs → vs = bs.map V.bl
  | [], _, _, h, e => by cases (show _ = [] from h); cases e; rfl
  | d :: ds, _, _, h, e => by
    obtain ⟨x, xs, rfl, r, t⟩ := h
    cases d <;> try (simp [asBs] at e; done)
    rename_i b
    have e : (asBs ds).map (b :: ·) = some _ := e
    obtain ⟨bs, e1, rfl⟩ := Option.map_eq_some_iff.mp e
    rw [asBs_ok t e1, show x = V.bl b from r]
    rfl
theorem opL_all (g : Gm) : OpL g (rAll g.K) oAll := by
  intro F H vs ds z Q sf r ho k
  unfold oAll at ho
  split at ho
  · obtain ⟨bs, h1, rfl⟩ := Option.map_eq_some_iff.mp ho
    obtain ⟨x, rfl, rx⟩ := r.one
    obtain ⟨p, xs, rfl, hx, rl⟩ := rx.lst sf
    rw [asBs_ok rl h1] at hx
    exact ⟨p, bs, rfl, .of hx, k _ _ _ .refl rfl⟩
  · cases ho
theorem opL_any (g : Gm) : OpL g (rAny g.K) oAny := by
  intro F H vs ds z Q sf r ho k
  unfold oAny at ho
  split at ho
  · obtain ⟨bs, h1, rfl⟩ := Option.map_eq_some_iff.mp ho
    obtain ⟨x, rfl, rx⟩ := r.one
    obtain ⟨p, xs, rfl, hx, rl⟩ := rx.lst sf
    rw [asBs_ok rl h1] at hx
    exact ⟨p, bs, rfl, .of hx, k _ _ _ .refl rfl⟩
  · cases ho
theorem opL_tuple (g : Gm) : OpL g (fun xs H Q => ∃ p ys, xs = [.ref p] ∧ ((SqL g.K H p ys ∧ ∀ l, H l = none → Q (.ref l) (upd H l (.tup ys))) ∨ (SqT g.K H p ys ∧ Q (.ref p) H))) oTuple := by
  intro F H vs ds z Q sf r ho k
  unfold oTuple at ho
  split at ho
  · cases ho
    obtain ⟨x, rfl, rx⟩ := r.one
    obtain ⟨p, xs, rfl, hx, rl⟩ := rx.lst sf
    exact ⟨p, xs, rfl, .inl ⟨.of hx, fun l hl => k _ _ _ (.new _ sf hl) ⟨l, xs, rfl, .of upd_same, rl.mono (Same.new (sf.free hl))⟩⟩⟩
  · rename_i ts
    cases ho
    obtain ⟨x, rfl, rx⟩ := r.one
    have rx' := rx
    obtain ⟨p, xs, rfl, hx, rl⟩ := rx.tup sf
    have rx2 : Rep g F (.tup ts) (.ref p) := by rcases rx' with h | ⟨_, _, _, _, h⟩; exact h; exact h.elim
    exact ⟨p, xs, rfl, .inr ⟨hx, k _ _ _ .refl rx2⟩⟩
  · cases ho
theorem opN_list (g : Gm) : OpN g (fun xs H Q => ∃ p ys, xs = [.ref p] ∧ (SqL g.K H p ys ∨ SqT g.K H p ys) ∧ ∀ l, H l = none → Q (.ref l) (upd H l (.lst ys))) oList := by
  intro F H vs ds z Q sf r ho k
  unfold oList at ho
  split at ho
  · cases ho
    obtain ⟨x, rfl, rx⟩ := r.one
    obtain ⟨p, xs, rfl, hx, rl⟩ := rx.lst sf
    exact ⟨p, xs, rfl, .inl (.of hx), fun l hl => k _ _ hl ⟨xs, rfl, rl⟩⟩
  · cases ho
    obtain ⟨x, rfl, rx⟩ := r.one
    obtain ⟨p, xs, rfl, hx, rl⟩ := rx.tup sf
    exact ⟨p, xs, rfl, .inr hx, fun l hl => k _ _ hl ⟨xs, rfl, rl⟩⟩
  · cases ho
    obtain ⟨x, rfl, rx⟩ := r.one
    obtain ⟨p, rfl, hx⟩ := rx.scr sf
    exact ⟨p, _, rfl, .inl hx, fun l hl => k _ _ hl ⟨_, rfl, RepL.ints _⟩⟩
  · cases ho
theorem opL_int (g : Gm) : OpL g (fun xs H Q => (∃ i, xs = [.int i] ∧ Q (.int i) H) ∨ ∃ k, xs = [.bl k] ∧ Q (.int (if k then 1 else 0)) H) oInt := by
  intro F H vs ds z Q sf r ho k
  unfold oInt at ho
  split at ho
  · cases ho
    obtain ⟨x, rfl, rx⟩ := r.one
    rw [rx.int]
    exact .inl ⟨_, rfl, k _ _ _ .refl rfl⟩
  · cases ho
    obtain ⟨x, rfl, rx⟩ := r.one
    rw [rx.bl]
    exact .inr ⟨_, rfl, k _ _ _ .refl rfl⟩
  · cases ho
theorem opL_abs (g : Gm) : OpL g (fun xs H Q => ∃ i, xs = [.int i] ∧ Q (.int (if i < 0 then -i else i)) H) oAbs := by
  intro F H vs ds z Q sf r ho k
  unfold oAbs at ho
  split at ho
  · cases ho
    obtain ⟨x, rfl, rx⟩ := r.one
    rw [rx.int]
    exact ⟨_, rfl, k _ _ _ .refl rfl⟩
  · cases ho
theorem opL_min2 (g : Gm) : OpL g (fun xs H Q => ∃ i j, xs = [.int i, .int j] ∧ Q (.int (if j < i then j else i)) H) oMin2 := by
  intro F H vs ds z Q sf r ho k
  unfold oMin2 at ho
  split at ho
  · cases ho
    obtain ⟨x, y, rfl, rx, ry⟩ := r.two
    rw [rx.int, ry.int]
    exact ⟨_, _, rfl, k _ _ _ .refl rfl⟩
  · cases ho
theorem opL_max2 (g : Gm) : OpL g (fun xs H Q => ∃ i j, xs = [.int i, .int j] ∧ Q (.int (if j > i then j else i)) H) oMax2 := by
  intro F H vs ds z Q sf r ho k
  unfold oMax2 at ho
  split at ho
  · cases ho
    obtain ⟨x, y, rfl, rx, ry⟩ := r.two
    rw [rx.int, ry.int]
    exact ⟨_, _, rfl, k _ _ _ .refl rfl⟩
  · cases ho
/-! isinstance -/
theorem tyx_of {F H : Hp} {d : D} {v : V} {t : String} (sf : Same F H) (r : RepH g F H d v) (hi : isIns d = false) (h : tyName d = some t) : TyX g.K H v (.type t) ∧ t ∈ tys := by
  have sqt : ∀ {a : Addr} {xs : List V}, SqT g.K H a xs → TyX g.K H (.ref a) (.type "tuple") := fun {a xs} q => by
    rcases q with (q | ⟨o, q⟩) | ⟨o, its, n, hk, hc, _⟩
    · exact .base (.tup q)
    · exact .fTuple q
    · exact .kTuple hk hc
  have sql : ∀ {a : Addr} {xs : List V}, SqL g.K H a xs → TyX g.K H (.ref a) (.type "list") := fun {a xs} q => by
    rcases q with (q | ⟨o, q⟩) | ⟨o, its, n, hk, hc, _⟩
    · exact .base (.lst q)
    · exact .base (.frz q)
    · exact .kList hk hc
  cases d with
  | non => cases h; rw [r.non]; exact ⟨.base .non, by decide⟩
  | bl b => cases h; rw [r.bl]; exact ⟨.base (.bl b), by decide⟩
  | int b => cases h; rw [r.int]; exact ⟨.base (.int b), by decide⟩
  | str b => cases h; rw [r.str]; exact ⟨.base (.str b), by decide⟩
  | tup ds => cases h; obtain ⟨a, xs, rfl, q, _⟩ := r.tup sf; exact ⟨sqt q, by decide⟩
  | lst ds => cases h; obtain ⟨a, xs, rfl, q, _⟩ := r.lst sf; exact ⟨.base (.lst q), by decide⟩
  | scr ns => cases h; obtain ⟨a, rfl, q⟩ := r.scr sf; exact ⟨sql q, by decide⟩
  | emp => cases h; rcases r with ⟨a, rfl, q⟩ | ⟨_, _, _, _, e⟩; exact ⟨.base (.dK (sf _ _ q)), by decide⟩; exact e.elim
  | ins _ _ _ => cases hi
  | _ => cases h
/-- facts of the own classes: an instance's type is its class -/
structure InsTy (g : Gm) (c : Nat) : Prop where
  cl : Cls g.K (g.cls c)
  ha : PySem.W.findIn g.K (.ref (g.cls c)) "__class__" = some (some (.builtin "object.__class__"))
  hn : PySem.W.specialIn g.K (.builtin "object.__class__") "__get__" = some (some (.builtin "getset_descriptor.__get__"))
  htk : PySem.W.takesIn g.K (.builtin "object.__class__") = some true
  hm : PySem.W.mroIn g.K (g.cls c) (.type "object") = some true
  ci : (PySem.W.clsIn g.K (g.cls c)).isSome = true
  cy : PySem.W.typeIn g.K (.ref (g.cls c)) = some (.type "type")
  nb : ∀ T ∈ tgs, PySem.W.kitOne g.K (.ref (g.cls c)) (.type T) = some false
theorem subTy_own : ∀ T ∈ tgs, subTy "own" T = false := by decide +kernel
/-- a thing's type, as isinstance asks it -/
theorem tyx_kit {F H : Hp} {d : D} {v : V} {t : String} (hI : ∀ c, InsTy g c) (sf : Same F H) (r : RepH g F H d v) (h : tyName d = some t) : ∃ tv, TyX g.K H v tv ∧ ∀ T ∈ tgs, PySem.W.kitOne g.K tv (.type T) = some (subTy t T) := by
  cases hi : isIns d with
  | false =>
    obtain ⟨h1, h2⟩ := tyx_of sf r hi h
    exact ⟨_, h1, fun T hT => kit_ty (kitB_tys t h2 T hT)⟩
  | true =>
    cases d with
    | ins c ns ds =>
      cases h
      obtain ⟨a, dx, xs, rfl, q, _⟩ := r.ins sf
      obtain ⟨cl, ha, hn, htk, hm, _, _, nb⟩ := hI c
      exact ⟨_, .base (.ins q cl ha hn htk hm), fun T hT => by rw [nb T hT, subTy_own T hT]⟩
    | _ => cases hi
theorem sub_own {K : PySem.W.Frag} {C : Addr} : ∀ t ∈ tys, PySem.W.subIn K (.type t) (.ref C) = some false := by
  intro t ht
  simp only [tys, List.mem_cons, List.not_mem_nil, or_false] at ht
  rcases ht with rfl | rfl | rfl | rfl | rfl | rfl | rfl <;> rfl
theorem kit_own {K : PySem.W.Frag} {C : Addr} (ci : (PySem.W.clsIn K C).isSome = true) (cy : PySem.W.typeIn K (.ref C) = some (.type "type")) (t : String) (ht : t ∈ tys) : PySem.W.kitOne K (.type t) (.ref C) = some false := by
  have e1 : (Value.type t == Value.ref C) = false := rfl
  have e2 : ((PySem.W.clsIn K C).isSome && PySem.W.typeIn K (.ref C) == some (.type "type")) = true := by rw [ci, cy] <;> rfl
  unfold PySem.W.kitOne PySem.W.kitCls
  simp only [e1, e2, if_true, Bool.false_eq_true, if_false]
  exact sub_own t ht
/-- unlike own classes -/
def Unlike (g : Gm) (N : Nat) : Prop := ∀ c c', c < N → c' < N → c ≠ c' → PySem.W.kitOne g.K (.ref (g.cls c')) (.ref (g.cls c)) = some false
def clsV (g : Gm) : D → Option (V × Value)
  | .ty T => some (.ty T, .type T)
  | .cls c => some (.ref (g.cls c), .ref (g.cls c))
  | _ => none
theorem isiOne_ok {F H : Hp} {N : Nat} {x c : D} {v u : V} {b : Bool} (hI : ∀ c, InsTy g c) (hU : Unlike g N) (sf : Same F H) (rx : RepH g F H x v) (rc : RepH g F H c u) (h : isiOne N x c = some b) : ∃ t w, ClsV u w ∧ TyX g.K H v t ∧ PySem.W.kitOne g.K t w = some b := by
  unfold isiOne at h
  cases c with
  | ty T =>
    simp only at h
    split at h
    · rename_i t ht
      split at h
      · rename_i hT
        cases h
        obtain ⟨tv, h1, h2⟩ := tyx_kit hI sf rx ht
        rw [rc.ty]
        exact ⟨_, _, .ty T, h1, h2 T (by simpa using hT)⟩
      · cases h
    · cases h
  | cls c =>
    simp only at h
    split at h
    · rename_i c' ns ds
      obtain ⟨a, dx, xs, rfl, q, _⟩ := rx.ins sf
      rw [rc.cls]
      obtain ⟨cl, ha, hn, htk, hm, _, _, _⟩ := hI c'
      split at h
      · rename_i e
        cases h
        subst e
        exact ⟨_, _, .own _, .base (.ins q cl ha hn htk hm), by unfold PySem.W.kitOne; rw [if_pos (by simp)]⟩
      · rename_i ne
        split at h
        · rename_i hN
          cases h
          exact ⟨_, _, .own _, .base (.ins q cl ha hn htk hm), hU c c' hN.1 hN.2 ne⟩
        · cases h
    · rename_i hni
      split at h
      · rename_i t ht
        cases h
        obtain ⟨h1, h2⟩ := tyx_of sf rx (by cases x <;> first | rfl | exact (hni _ _ _ rfl).elim) ht
        rw [rc.cls]
        exact ⟨_, _, .own _, h1, kit_own (hI c).ci (hI c).cy t h2⟩
      · cases h
  | _ => cases h
theorem opL_isi (g : Gm) {N : Nat} (hI : ∀ c, InsTy g c) (hU : Unlike g N) : OpL g (rIsi g.K) (oIsi N) := by
  intro F H vs ds z Q sf r ho k
  unfold oIsi at ho
  split at ho
  · obtain ⟨b, h1, rfl⟩ := Option.map_eq_some_iff.mp ho
    obtain ⟨x, y, rfl, rx, ry⟩ := r.two
    obtain ⟨t, w, a1, a2, a3⟩ := isiOne_ok hI hU sf rx ry h1
    exact ⟨x, y, t, w, b, rfl, a1, a2, a3, k _ _ _ .refl rfl⟩
  · cases ho
end
end FL

namespace FL
open PySem PySem.Spec PyProof.Rows L2

/-! ## displays -/
def oTupD (ds : List D) : Option D := if ds.length ≤ sizeLine then some (.tup ds) else none
def oLstD (ds : List D) : Option D := if ds.length ≤ sizeLine then some (.lst ds) else none
section
variable {X : Cx} {g : Gm} {W : WX} {e a b c t : Expr} {es : List Expr} {pos : Pos} {st : Stmt} {ρ : Nat → Addr} {G F H : Hp} {E : Nv} {σ : L2.St}
def resV (o : List D → Option D) (E : Nv) (as : List Ar) : R D := match valsOf as with
  | none => .bad
  | some ds => R.some (o ds) E
def fOpV (o : List D → Option D) (fs : Nv → R (List Ar)) : Nv → R D := fun E => (fs E).bind fun as E1 => resV o E1 as
theorem fe_tup {fs : Nv → R (List Ar)} (h : PE X e (tTup (tG g W (relAs g) fs))) : FE X g W e (fOpV oTupD fs) := peImp h fun σ H Q ⟨ρ, G, E, F, st, q⟩ =>
  bindE st q fun as E1 vs F1 H1 st1 s1 r1 q1 => by
    unfold resV at q1
    cases z : valsOf as with
    | none => simp only [z] at q1; exact q1.elim
    | some ds =>
      simp only [z] at q1
      have rl := valsOf_ok r1 z
      unfold oTupD at q1
      by_cases hl : ds.length ≤ sizeLine
      · rw [if_pos hl] at q1
        exact ⟨by rw [← rl.length]; exact hl, fun p hp => q1 _ _ _ (st1.grow hp _) (Same.new (st1.fF hp)) ⟨p, vs, rfl, .of upd_same, rl.mono (Same.new (st1.fF hp))⟩⟩
      · rw [if_neg hl] at q1; exact q1.elim
theorem fn_lst {fs : Nv → R (List Ar)} (h : PE X e (tLst (tG g W (relAs g) fs))) : FN X g W e (fOpV oLstD fs) := peImp h fun σ H Q ⟨ρ, G, E, F, st, q⟩ =>
  bindN st q fun as E1 vs F1 H1 st1 s1 r1 q1 => by
    unfold resV at q1
    cases z : valsOf as with
    | none => simp only [z] at q1; exact q1.elim
    | some ds =>
      simp only [z] at q1
      have rl := valsOf_ok r1 z
      unfold oLstD at q1
      by_cases hl : ds.length ≤ sizeLine
      · rw [if_pos hl] at q1
        exact ⟨by rw [← rl.length]; exact hl, fun p hp => q1 _ _ F1 _ (st1.temp hp _) (st1.fG hp) ⟨vs, rfl, rl⟩ (Same.refl _)⟩
      · rw [if_neg hl] at q1; exact q1.elim

/-! ## slices -/
abbrev relP : Hp → L2.St → Option Int → Option Int → Prop := fun _ _ b c => b = c
abbrev FP (X : Cx) (g : Gm) (W : WX) (e : Option Expr) (f : Nv → R (Option Int)) : Prop := PO X e (tG g W relP f)
def pNone : Nv → R (Option Int) := fun E => .val none E
def asI : D → Option Int
  | .int i => some i
  | _ => none
def pSome (f : Nv → R D) : Nv → R (Option Int) := fun E => (f E).bind fun d E1 => match asI d with
  | some i => .val (some i) E1
  | none => .bad
theorem fp_none : FP X g W none pNone := ⟨fun pins s σ H Q I ⟨ρ, G, E, F, st, q⟩ => po_none.run pins s σ H Q I (q none F H st (Same.refl _) rfl)⟩
theorem fp_some {f : Nv → R D} (h : FE X g W e f) : FP X g W (some e) (pSome f) := ⟨fun pins s σ H Q I ⟨ρ, G, E, F, st, q⟩ => (po_some h).run pins s σ H Q I (bindE st q fun d E1 v F1 H1 st1 s1 r1 q1 => by
  cases d with
  | int i =>
    obtain rfl : v = .int i := r1
    exact ⟨i, rfl, q1 (some i) F1 H1 st1 (Same.refl _) rfl⟩
  | _ => exact q1.elim)⟩
def cutL {α : Type} (xs : List α) (lo hi : Option Int) : List α := (xs.drop (HT.sIx xs.length 0 lo)).take (HT.sIx xs.length xs.length hi - HT.sIx xs.length 0 lo)
theorem cutL_rep {ds : List D} {xs : List V} (r : RepL g F ds xs) (lo hi : Option Int) : RepL g F (cutL ds lo hi) (cutV xs lo hi) := by
  unfold cutL cutV
  rw [← r.length]
  exact (r.drop _).take _
def oSl (d : D) (lo hi : Option Int) : Option D := match d with
  | .tup ds => some (.tup (cutL ds lo hi))
  | .lst ds => some (.lst (cutL ds lo hi))
  | .scr ns => some (.lst (cutL (ns.map .int) lo hi))
  | .str z => if z.length ≤ sizeLine then some (.str (cutS z lo hi)) else none
  | _ => none
def rSlAll (K : PySem.W.Frag) : V → Option Int → Option Int → Hp → VK → Prop := fun x lo hi H Q => (rSlA K x lo hi H Q ∨ rSlL K x lo hi H Q) ∨ rSlS x lo hi H Q
theorem slr_all : SlR X (rSlAll X.K) := (sl_tupA.or sl_list).or sl_str
theorem oSl_ok {d z : D} {v : V} {lo hi : Option Int} {Q : VK} (sf : Same F H) (rd : RepH g F H d v) (ho : oSl d lo hi = some z) (k : ∀ w F' H', Grow g F H F' H' → Rep g F' z w → Q w H') : rSlAll g.K v lo hi H Q := by
  cases d with
  | tup ds =>
    cases ho
    have rd' : Rep g F (.tup ds) v := by rcases rd with h | ⟨_, _, _, _, h⟩; exact h; exact h.elim
    obtain ⟨p, xs, rfl, hx, rl⟩ := rd.tup sf
    refine .inl (.inl ⟨p, xs, rfl, hx, fun hw => ?_, fun _ l hl => ?_⟩)
    · have e : cutL ds lo hi = ds := by
        unfold cutL
        rw [rl.length, hw.1, hw.2, List.drop_zero, Nat.sub_zero]
        exact List.take_of_length_le (by rw [rl.length]; exact Nat.le_refl _)
      rw [e] at k
      exact k _ _ _ .refl rd'
    · exact k _ _ _ (.new _ sf hl) ⟨l, _, rfl, .of upd_same, (cutL_rep rl lo hi).mono (Same.new (sf.free hl))⟩
  | lst ds =>
    cases ho
    obtain ⟨p, xs, rfl, hx, rl⟩ := rd.lst sf
    exact .inl (.inr ⟨p, xs, rfl, .of hx, fun l hl => k _ _ _ (.new _ sf hl) ⟨l, _, rfl, upd_same, (cutL_rep rl lo hi).mono (Same.new (sf.free hl))⟩⟩)
  | scr ns =>
    cases ho
    obtain ⟨p, rfl, hx⟩ := rd.scr sf
    exact .inl (.inr ⟨p, _, rfl, hx, fun l hl => k _ _ _ (.new _ sf hl) ⟨l, _, rfl, upd_same, (cutL_rep (RepL.ints ns) lo hi).mono (Same.new (sf.free hl))⟩⟩)
  | str z =>
    obtain ⟨hl, rfl⟩ := iteSome ho
    rw [rd.str]
    exact .inr ⟨z, rfl, hl, k _ _ _ .refl rfl⟩
  | _ => cases ho
def resSl (lo hi : Option Int) (a : Ar) (E : Nv) : R D := match a.get E with
  | none => .bad
  | some d => R.some (oSl d lo hi) E
def fSl (fa : Nv → R Ar) (fl fh : Nv → R (Option Int)) : Nv → R D := fun E => (fa E).bind fun a E1 => (fl E1).bind fun lo E2 => (fh E2).bind fun hi E3 => resSl lo hi a E3
theorem fe_sl {fa : Nv → R Ar} {fl fh : Nv → R (Option Int)} (hK : X.K = g.K) (h : PE X e (tSl (rSlAll X.K) (tG g W (relA g) fa) (tG g W relP fl) (tG g W relP fh))) : FE X g W e (fSl fa fl fh) := peImp h fun σ H Q ⟨ρ, G, E, F, st, q⟩ =>
  bindE st q fun a E1 v F1 H1 st1 s1 r1 q1 => bindE st1 q1 fun lo E2 lo' F2 H2 st2 s2 r2 q2 => bindE st2 q2 fun hi E3 hi' F3 H3 st3 s3 r3 q3 => by
    obtain rfl : lo = lo' := r2
    obtain rfl : hi = hi' := r3
    unfold resSl at q3
    cases z : a.get E3 with
    | none => simp only [z] at q3; exact q3.elim
    | some d =>
      simp only [z] at q3
      cases z2 : oSl d lo hi with
      | none => simp only [z2, R.some] at q3; exact q3.elim
      | some y =>
        simp only [z2, R.some] at q3
        rw [hK]
        exact oSl_ok (g := g) st3.sf (ar_ok st3 (r1.mono (s2.trans s3)) z) z2 fun w F' H' gr r => q3 w F' H' (gr.2 _ _ _ _ st3) gr.1 r
/-- a slice of a list, a new list -/
def resSlN (lo hi : Option Int) (a : Ar) (E : Nv) : R D := match a.get E with
  | some (.lst ds) => .val (.lst (cutL ds lo hi)) E
  | some (.scr ns) => .val (.lst (cutL (ns.map .int) lo hi)) E
  | _ => .bad
def fSlN (fa : Nv → R Ar) (fl fh : Nv → R (Option Int)) : Nv → R D := fun E => (fa E).bind fun a E1 => (fl E1).bind fun lo E2 => (fh E2).bind fun hi E3 => resSlN lo hi a E3
theorem fn_sl {fa : Nv → R Ar} {fl fh : Nv → R (Option Int)} (hK : X.K = g.K) (h : PE X e (tSl (rSlL X.K) (tG g W (relA g) fa) (tG g W relP fl) (tG g W relP fh))) : FN X g W e (fSlN fa fl fh) := peImp h fun σ H Q ⟨ρ, G, E, F, st, q⟩ =>
  bindN st q fun a E1 v F1 H1 st1 s1 r1 q1 => bindN st1 q1 fun lo E2 lo' F2 H2 st2 s2 r2 q2 => bindN st2 q2 fun hi E3 hi' F3 H3 st3 s3 r3 q3 => by
    obtain rfl : lo = lo' := r2
    obtain rfl : hi = hi' := r3
    unfold resSlN at q3
    cases z : a.get E3 with
    | none => simp only [z] at q3; exact q3.elim
    | some d =>
      simp only [z] at q3
      have rd := ar_ok st3 (r1.mono (s2.trans s3)) z
      rw [hK]
      cases d with
      | lst ds =>
        obtain ⟨p, xs, rfl, hx, rl⟩ := rd.lst st3.sf
        exact ⟨p, xs, rfl, .of hx, fun l hl => q3 l _ F3 _ (st3.temp hl _) (st3.fG hl) ⟨_, rfl, cutL_rep rl lo hi⟩ (Same.refl _)⟩
      | scr ns =>
        obtain ⟨p, rfl, hx⟩ := rd.scr st3.sf
        exact ⟨p, _, rfl, hx, fun l hl => q3 l _ F3 _ (st3.temp hl _) (st3.fG hl) ⟨_, rfl, cutL_rep (RepL.ints ns) lo hi⟩ (Same.refl _)⟩
      | _ => exact q3.elim

/-! ## what is walked -/
/-- a list, a tuple, a text -/
def iAny (K : PySem.W.Frag) (tl : TE) : TI := fun σ H R => tl σ H fun x H1 => (∃ a xs, x = .ref a ∧ SqL K H1 a xs ∧ R (Itl K a) H1) ∨ (∃ a xs, x = .ref a ∧ SqT K H1 a xs ∧ R (Itt K a) H1) ∨ ∃ z, x = .str z ∧ R (Its z) H1
theorem pi_any {tg l : Expr} {tl : TE} (hl : PE X l tl) : PI X tg l (iAny X.K tl) := by
  refine ⟨fun pins s σ H R I h => ?_⟩
  refine thn (hl.run pins s σ H _ I h) fun v s1 ⟨x, H1, I1, r1, q1⟩ => ?_
  rcases q1 with ⟨a, xs, e, hq, q⟩ | ⟨a, xs, e, hq, q⟩ | ⟨z, e, q⟩
  · subst e
    cases r1
    obtain ⟨its, rv, p, hz⟩ := I1.list hq
    refine wpAny_pyIter_list p.isList ?_
    refine ⟨s1.heap.objs.size, [s1.heap.objs.size], _, _, H1, rfl, I1.kept (t' := s1.toks) fun b o e => Heap.get?_push_of_some _ e, turn_list a _, ⟨_, Heap.get?_push_size _ rfl, rfl, rfl⟩, fun b hb => ?_, q⟩
    have e : b = s1.heap.objs.size := by simpa using hb
    subst e
    exact I1.fpOk (Nat.le_refl _) (I1.hok.fresh (Nat.le_refl _))
  · subst e
    cases r1
    obtain ⟨its, rv, p, hz⟩ := I1.tuple hq
    refine wpAny_pyIter_tuple (show s1.heap.IsTuple a its.toArray from p) ?_
    refine ⟨s1.heap.objs.size, [s1.heap.objs.size], _, _, H1, rfl, I1.kept (t' := s1.toks) fun b o e => Heap.get?_push_of_some _ e, turn_tuple a _, ⟨_, Heap.get?_push_size _ rfl, rfl, rfl⟩, fun b hb => ?_, q⟩
    have e : b = s1.heap.objs.size := by simpa using hb
    subst e
    exact I1.fpOk (Nat.le_refl _) (I1.hok.fresh (Nat.le_refl _))
  · subst e
    obtain ⟨t, rfl⟩ := r1
    cases ha : z.cps.all (· < 128)
    · exact wpAny_pyIter_wide ha (pi_one (tk := s1.toks) I1 _ (turn_str _ z t "str_iterator" (.inr rfl)) ⟨_, Heap.get?_push_size _ rfl, rfl, rfl⟩ q)
    · exact wpAny_pyIter_ascii ha (pi_one (tk := s1.toks) I1 _ (turn_str _ z t "str_ascii_iterator" (.inl rfl)) ⟨_, Heap.get?_push_size _ rfl, rfl, rfl⟩ q)
def itAny : D → Option (List D)
  | .lst ds => some ds
  | .tup ds => some ds
  | .scr ns => some (ns.map .int)
  | .str z => some (z.cps.toList.map fun c => .str ⟨#[c]⟩)
  | _ => none
theorem RepL.at {ds : List D} {xs : List V} {i : Nat} {x : V} : ∀ {ds : List D} {xs : List V} {i : Nat} {x : V}, RepL g F ds xs → xs[i]? = some x → ∃ d, ds[i]? = some d ∧ Rep g F d x := fun {ds xs i x} r h => by
  have hi : i < ds.length := by rw [r.length]; exact (List.getElem?_eq_some_iff.mp h).1
  obtain ⟨v, a, b⟩ := r.get (List.getElem?_eq_getElem hi)
  rw [h] at a; cases a
  exact ⟨_, List.getElem?_eq_getElem hi, b⟩
theorem walks_l {a : Addr} {ds : List D} {xs : List V} (h : SqL g.K F a xs) (r : RepL g F ds xs) : Walks g F (Itl g.K a) ds where
  goes := fun i H F2 s1 s2 hi => walk_list.goes i H (by rw [← r.length]; exact hi) ((s1.trans s2).seq h)
  stops := fun H F2 s1 s2 => by rw [r.length]; exact walk_list.stops H ((s1.trans s2).seq h)
  yields := fun i H F2 x H' s1 s2 hi y => by
    obtain ⟨e, hx⟩ := walk_list.yields i H x H' (by rw [← r.length]; exact hi) ((s1.trans s2).seq h) y
    obtain ⟨d, a, b⟩ := RepL.at (ds := ds) (xs := xs) (i := i) (x := x) r hx
    subst e
    exact ⟨d, F2, a, .refl, b.mono s1⟩
theorem walks_t {a : Addr} {ds : List D} {xs : List V} (h : SqT g.K F a xs) (r : RepL g F ds xs) : Walks g F (Itt g.K a) ds where
  goes := fun i H F2 s1 s2 hi => walk_tup.goes i H (by rw [← r.length]; exact hi) (same_t (s1.trans s2) h)
  stops := fun H F2 s1 s2 => by rw [r.length]; exact walk_tup.stops H (same_t (s1.trans s2) h)
  yields := fun i H F2 x H' s1 s2 hi y => by
    obtain ⟨e, hx⟩ := walk_tup.yields i H x H' (by rw [← r.length]; exact hi) (same_t (s1.trans s2) h) y
    obtain ⟨d, a, b⟩ := RepL.at (ds := ds) (xs := xs) (i := i) (x := x) r hx
    subst e
    exact ⟨d, F2, a, .refl, b.mono s1⟩
theorem walks_s {z : Str} : Walks g F (Its z) (z.cps.toList.map fun c => D.str ⟨#[c]⟩) where
  goes := fun i H F2 s1 s2 hi => walk_str.goes i H (by simpa using hi) trivial
  stops := fun H F2 s1 s2 => by rw [List.length_map, Array.length_toList]; exact walk_str.stops H trivial
  yields := fun i H F2 x H' s1 s2 hi y => by
    obtain ⟨e, c, hc, rfl⟩ := walk_str.yields i H x H' (by simpa using hi) trivial y
    subst e
    exact ⟨.str ⟨#[c]⟩, F2, by rw [List.getElem?_map, Array.getElem?_toList, hc]; rfl, .refl, rfl⟩
theorem walks_r {lo : Int} {n : Nat} : Walks g F (Itr lo n) ((List.range n).map fun (i : Nat) => D.int (lo + i)) where
  goes := fun i H F2 s1 s2 hi => walk_range.goes i H (by simpa using hi) trivial
  stops := fun H F2 s1 s2 => by rw [List.length_map, List.length_range]; exact walk_range.stops H trivial
  yields := fun i H F2 x H' s1 s2 hi y => by
    have hi' : i < n := by simpa using hi
    obtain ⟨e, rfl⟩ := walk_range.yields i H x H' hi' trivial y
    subst e
    exact ⟨.int (lo + i), F2, by simp [hi'], .refl, rfl⟩
/-- new pairs -/
theorem walks_pair {J : It} {n : Nat} {Gw : Hp → Prop} {fx fy : Nat → Option V} {ds : List D} (w : Walk J n Gw (YPair fx fy)) (hn : n = ds.length) (hG : ∀ H F2, Same F F2 → Same F2 H → Gw H)
    (hd : ∀ i x y, i < n → fx i = some x → fy i = some y → ∃ a b, ds[i]? = some (.tup [a, b]) ∧ Rep g F a x ∧ Rep g F b y) : Walks g F J ds where
  goes := fun i H F2 s1 s2 hi => w.goes i H (by rw [hn]; exact hi) (hG H F2 s1 s2)
  stops := fun H F2 s1 s2 => by rw [← hn]; exact w.stops H (hG H F2 s1 s2)
  yields := fun i H F2 x H' s1 s2 hi y => by
    obtain ⟨T, u, v, rfl, hT, rfl, e1, e2⟩ := w.yields i H x H' (by rw [hn]; exact hi) (hG H F2 s1 s2) y
    obtain ⟨a, b, h1, h2, h3⟩ := hd i u v (by rw [hn]; exact hi) e1 e2
    have sn : Same F2 (upd F2 T (.tup [u, v])) := Same.new (s2.free hT)
    exact ⟨_, _, h1, .new _ s2 hT, T, _, rfl, .of upd_same, ⟨u, [v], rfl, h2.mono (s1.trans sn), v, [], rfl, h3.mono (s1.trans sn), rfl⟩⟩
theorem bindI {α β : Type} {rel : Hp → L2.St → α → β → Prop} {f : Nv → R α} {k : α → Nv → R (List D)} {Q2 : It → Hp → Prop} {Q1 : β → Hp → Prop} (st : StOk g ρ G E F σ H) (h : postI g W ρ G F σ Q2 ((f E).bind k))
    (cont : ∀ a E1 b F1 H1, StOk g ρ G E1 F1 σ H1 → Same F F1 → rel F1 σ a b → postI g W ρ G F1 σ Q2 (k a E1) → Q1 b H1) : tG g W rel f σ H Q1 := by
  have mono : ∀ {F1 : Hp}, Same F F1 → ∀ {r : R (List D)}, postI g W ρ G F σ Q2 r → postI g W ρ G F1 σ Q2 r := fun {F1} s {r} h => by
    cases r with
    | val ds E' => exact fun J F' H' st q w => h J F' H' st (s.trans q) w
    | exc c fs E' => exact postX.mono s h
    | bad => exact h
  refine ⟨ρ, G, E, F, st, ?_⟩
  revert h
  cases f E with
  | val a E1 => exact fun h b F' H' st' s r => cont a E1 b F' H' st' s r (mono (r := k a E1) s h)
  | exc c fs E' => exact fun h => h
  | bad => exact fun h => h
def iAnyF (f : Nv → R D) : Nv → R (List D) := fun E => (f E).bind fun d E1 => R.some (itAny d) E1
theorem fi_any {tg : Expr} {f : Nv → R D} (hK : X.K = g.K) (h : PI X tg e (iAny X.K (tG g W (relD g) f))) : FI X g W tg e (iAnyF f) := piImp h fun σ H Q ⟨ρ, G, E, F, st, q⟩ =>
  bindI st q fun d E1 v F1 H1 st1 s1 r1 q1 => by
    rw [hK]
    cases d with
    | lst ds =>
      obtain ⟨a, xs, rfl, hx, rl⟩ := r1
      exact .inl ⟨a, xs, rfl, .of (st1.sf _ _ hx), q1 _ F1 H1 st1 (Same.refl _) (walks_l (.of hx) rl)⟩
    | tup ds =>
      obtain ⟨a, xs, rfl, hx, rl⟩ := r1
      exact .inr (.inl ⟨a, xs, rfl, same_t st1.sf hx, q1 _ F1 H1 st1 (Same.refl _) (walks_t hx rl)⟩)
    | scr ns =>
      obtain ⟨a, rfl, hx⟩ := r1
      exact .inl ⟨a, _, rfl, st1.sf.seq hx, q1 _ F1 H1 st1 (Same.refl _) (walks_l hx (RepL.ints ns))⟩
    | str z =>
      obtain rfl : v = .str z := r1
      exact .inr (.inr ⟨z, rfl, q1 _ F1 H1 st1 (Same.refl _) walks_s⟩)
    | _ => exact q1.elim
/-- the ints from lo to hi - 1 -/
def rangeD (lo : Int) (n : Nat) : List D := (List.range n).map fun (i : Nat) => D.int (lo + i)
open Classical in
noncomputable def itR : List D → Option (List D)
  | [.int j] => if B62 j then some (rangeD 0 j.toNat) else none
  | [.int i, .int j] => if B62 i ∧ B62 j then some (rangeD i (j - i).toNat) else none
  | _ => none
noncomputable def iRng (fs : Nv → R (List Ar)) : Nv → R (List D) := fun E => (fs E).bind fun as E1 => match valsOf as with
  | some ds => R.some (itR ds) E1
  | none => .bad
open Classical in
theorem fi_range1 {tg : Expr} {f : Nv → R Ar} (h : PI X tg e (iRng1 (tG g W (relAs g) (fAs [f])))) : FI X g W tg e (iRng (fAs [f])) := piImp h fun σ H Q ⟨ρ, G, E, F, st, q⟩ => by
  refine ⟨ρ, G, E, F, st, ?_⟩
  unfold iRng at q
  revert q
  cases z0 : fAs [f] E with
  | exc c fs E' => exact fun q => q
  | bad => exact fun q => q
  | val as E1 =>
    have la := fAs_len z0
    intro q vs F1 H1 st1 s1 r1
    have q : postI g W ρ G F σ Q (match valsOf as with | some ds => R.some (itR ds) E1 | none => .bad) := q
    cases z : valsOf as with
    | none => simp only [z] at q; exact q.elim
    | some ds =>
      simp only [z] at q
      have rl := valsOf_ok r1 z
      have ld : ds.length = 1 := by rw [rl.length, ← r1.length, la]; rfl
      match ds, ld with
      | [d], _ =>
        obtain ⟨x, rfl, rx⟩ : ∃ x, vs = [x] ∧ Rep g F1 d x := by
          obtain ⟨x, xs, rfl, a, b⟩ := rl
          cases (show xs = [] from b)
          exact ⟨x, rfl, a⟩
        cases d with
        | int j =>
          obtain rfl : x = .int j := rx
          have q : postI g W ρ G F σ Q (R.some (if B62 j then some (rangeD 0 j.toNat) else none) E1) := q
          by_cases hc : B62 j
          · rw [if_pos hc] at q
            exact ⟨j, rfl, hc.1, hc.2, q _ F1 H1 st1 s1 walks_r⟩
          · rw [if_neg hc] at q; exact q.elim
        | _ => exact q.elim
open Classical in
theorem fi_range2 {tg : Expr} {f f2 : Nv → R Ar} (h : PI X tg e (iRng2 (tG g W (relAs g) (fAs [f, f2])))) : FI X g W tg e (iRng (fAs [f, f2])) := piImp h fun σ H Q ⟨ρ, G, E, F, st, q⟩ => by
  refine ⟨ρ, G, E, F, st, ?_⟩
  unfold iRng at q
  revert q
  cases z0 : fAs [f, f2] E with
  | exc c fs E' => exact fun q => q
  | bad => exact fun q => q
  | val as E1 =>
    have la := fAs_len z0
    intro q vs F1 H1 st1 s1 r1
    have q : postI g W ρ G F σ Q (match valsOf as with | some ds => R.some (itR ds) E1 | none => .bad) := q
    cases z : valsOf as with
    | none => simp only [z] at q; exact q.elim
    | some ds =>
      simp only [z] at q
      have rl := valsOf_ok r1 z
      have ld : ds.length = 2 := by rw [rl.length, ← r1.length, la]; rfl
      match ds, ld with
      | [d, d2], _ =>
        obtain ⟨x, y, rfl, rx, ry⟩ : ∃ x y, vs = [x, y] ∧ Rep g F1 d x ∧ Rep g F1 d2 y := by
          obtain ⟨x, xs, rfl, a, y, ys, rfl, b, c⟩ := rl
          cases (show ys = [] from c)
          exact ⟨x, y, rfl, a, b⟩
        cases d with
        | int i =>
          cases d2 with
          | int j =>
            obtain rfl : x = .int i := rx
            obtain rfl : y = .int j := ry
            have q : postI g W ρ G F σ Q (R.some (if B62 i ∧ B62 j then some (rangeD i (j - i).toNat) else none) E1) := q
            by_cases hc : B62 i ∧ B62 j
            · rw [if_pos hc] at q
              exact ⟨i, j, rfl, ⟨hc.1.1, hc.1.2, hc.2.1, hc.2.2⟩, q _ F1 H1 st1 s1 walks_r⟩
            · rw [if_neg hc] at q; exact q.elim
          | _ => exact q.elim
        | _ => exact q.elim
/-- zip of two tuples, of two lists -/
def zipD (a b : List D) : List D := (a.zip b).map fun p => .tup [p.1, p.2]
def itZ : List D → Option (List D)
  | [.lst a, .lst b] => some (zipD a b)
  | [.tup a, .tup b] => some (zipD a b)
  | _ => none
def iZip (fs : Nv → R (List Ar)) : Nv → R (List D) := fun E => (fs E).bind fun as E1 => match valsOf as with
  | some ds => R.some (itZ ds) E1
  | none => .bad
theorem zipD_get {a b : List D} {xs ys : List V} (ra : RepL g F a xs) (rb : RepL g F b ys) (i : Nat) (x y : V) (hx : xs[i]? = some x) (hy : ys[i]? = some y) : ∃ d e, (zipD a b)[i]? = some (.tup [d, e]) ∧ Rep g F d x ∧ Rep g F e y := by
  obtain ⟨d, h1, r1⟩ := RepL.at (ds := a) (xs := xs) (i := i) (x := x) ra hx
  obtain ⟨e, h2, r2⟩ := RepL.at (ds := b) (xs := ys) (i := i) (x := y) rb hy
  refine ⟨d, e, ?_, r1, r2⟩
  unfold zipD
  rw [List.getElem?_map, List.getElem?_zip_eq_some (z := (d, e)) |>.mpr ⟨h1, h2⟩]
  rfl
theorem walk_zipT {K : PySem.W.Frag} {a b : Addr} {xs ys : List V} {n : Nat} (hn : n = min xs.length ys.length) : Walk (RZ.ItzT K a b) n (fun H => SqT K H a xs ∧ SqT K H b ys) (YPair (fun i => xs[i]?) (fun i => ys[i]?)) := by
  subst hn
  refine ⟨fun i _ hi q => ?_, fun _ q => ⟨xs, ys, q.1, q.2, by omega⟩, fun i H v H' _ q y => ?_⟩
  · have h1 : i < xs.length := by omega
    have h2 : i < ys.length := by omega
    exact ⟨xs, ys, xs[i], ys[i], q.1, q.2, by simp [h1], by simp [h2]⟩
  · obtain ⟨T, x, z, h1, h2, h3, h4, h5⟩ := y
    exact ⟨T, x, z, h1, h2, h3, h4 xs q.1, h5 ys q.2⟩
theorem fi_zip {tg : Expr} {fs : Nv → R (List Ar)} (hK : X.K = g.K) (h : PI X tg e (RZ.iZipA X.K (tG g W (relAs g) fs))) : FI X g W tg e (iZip fs) := piImp h fun σ H Q ⟨ρ, G, E, F, st, q⟩ =>
  bindI st q fun as E1 vs F1 H1 st1 s1 r1 q1 => by
    rw [hK]
    cases z : valsOf as with
    | none => simp only [z] at q1; exact q1.elim
    | some ds =>
      simp only [z] at q1
      have rl := valsOf_ok r1 z
      unfold itZ at q1
      split at q1
      · rename_i a b
        obtain ⟨x, xs, rfl, ⟨p, us, rfl, hu, ru⟩, y, ys, rfl, ⟨p', us', rfl, hu', ru'⟩, e0⟩ := rl
        cases (show ys = [] from e0)
        refine ⟨p, p', us, us', rfl, .inl ⟨.of (st1.sf _ _ hu), .of (st1.sf _ _ hu'), q1 _ F1 H1 st1 (Same.refl _) ?_⟩⟩
        exact walks_pair (walk_zip rfl) (by simp [zipD, ru.length, ru'.length]) (fun H F2 a b => ⟨.of (b _ _ (a _ _ hu)), .of (b _ _ (a _ _ hu'))⟩) fun i x y _ hx hy => zipD_get ru ru' i x y hx hy
      · rename_i a b
        obtain ⟨x, xs, rfl, ⟨p, us, rfl, hu, ru⟩, y, ys, rfl, ⟨p', us', rfl, hu', ru'⟩, e0⟩ := rl
        cases (show ys = [] from e0)
        refine ⟨p, p', us, us', rfl, .inr ⟨same_t st1.sf hu, same_t st1.sf hu', q1 _ F1 H1 st1 (Same.refl _) ?_⟩⟩
        exact walks_pair (walk_zipT rfl) (by simp [zipD, ru.length, ru'.length]) (fun H F2 a b => ⟨same_t (a.trans b) hu, same_t (a.trans b) hu'⟩) fun i x y _ hx hy => zipD_get ru ru' i x y hx hy
      · exact q1.elim

/-! ## attributes -/
def lookD : Str → List Str → List D → Option D
  | f, n :: ns, d :: ds => if f = n then some d else lookD f ns ds
  | _, _, _ => none
theorem lookD_ok {f : Str} : ∀ {ns : List Str} {ds : List D} {xs : List V} {d : D}, RepL g F ds xs → lookD f ns ds = some d → ∃ v, (ns.zip xs).lookup f = some v ∧ Rep g F d v
  | [], _, _, _, _, h => by simp [lookD] at h
  | n :: ns, [], _, _, _, h => by simp [lookD] at h
  | n :: ns, d :: ds, _, _, r, h => by
    obtain ⟨x, xs, rfl, rx, rt⟩ := r
    unfold lookD at h
    by_cases e : f = n
    · rw [if_pos e] at h; cases h
      subst e
      exact ⟨x, by simp [List.lookup], rx⟩
    · rw [if_neg e] at h
      obtain ⟨v, a, b⟩ := lookD_ok rt h
      have ne : (f == n) = false := by simpa using e
      exact ⟨v, by simp only [List.zip_cons_cons, List.lookup, ne]; exact a, b⟩
def resFld (f : Str) (a : Ar) (E : Nv) : R D := match a.get E with
  | some (.ins _ ns ds) => R.some (lookD f ns ds) E
  | _ => .bad
def fFld (f : Str) (fa : Nv → R Ar) : Nv → R D := fun E => (fa E).bind fun a E1 => resFld f a E1
theorem fe_fld {f : Str} {fa : Nv → R Ar} (hK : X.K = g.K) (hc : ∀ c, Cls g.K (g.cls c)) (hn : ∀ c, NoAttr g.K (g.cls c) f) (h : PE X e (tFld X.K (tG g W (relA g) fa) f)) : FE X g W e (fFld f fa) := peImp h fun σ H Q ⟨ρ, G, E, F, st, q⟩ =>
  bindE st q fun a E1 v F1 H1 st1 s1 r1 q1 => by
    unfold resFld at q1
    cases z : a.get E1 with
    | none => simp only [z] at q1; exact q1.elim
    | some d =>
      simp only [z] at q1
      cases d with
      | ins c ns ds =>
        simp only at q1
        cases z2 : lookD f ns ds with
        | none => simp only [z2, R.some] at q1; exact q1.elim
        | some y =>
          simp only [z2, R.some] at q1
          obtain ⟨p, dx, xs, rfl, hp, hl, rl⟩ := (ar_ok st1 r1 z).ins st1.sf
          obtain ⟨w, a1, a2⟩ := lookD_ok rl z2
          exact ⟨p, g.cls c, dx, _, w, rfl, hp, by rw [hK]; exact hc c, by rw [hK]; exact hn c, a1, q1 w F1 H1 st1 (Same.refl _) a2⟩
      | _ => exact q1.elim
def putN (f : Str) : List Str → List Str
  | [] => [f]
  | n :: ns => if n = f then n :: ns else n :: putN f ns
def putD (f : Str) (d : D) : List Str → List D → List D
  | n :: ns, x :: xs => if n = f then d :: xs else x :: putD f d ns xs
  | _, _ => [d]
theorem put_ok {f : Str} {d : D} {v : V} (rv : Rep g F d v) : ∀ {ns : List Str} {ds : List D} {xs : List V}, ns.length = xs.length → RepL g F ds xs → ∃ ys, putF f v (ns.zip xs) = (putN f ns).zip ys ∧ (putN f ns).length = ys.length ∧ RepL g F (putD f d ns ds) ys
  | [], ds, xs, hl, r => by
    have : xs = [] := List.length_eq_zero_iff.mp hl.symm
    subst this
    have : ds = [] := List.length_eq_zero_iff.mp (by rw [r.length]; rfl)
    subst this
    exact ⟨[v], rfl, rfl, v, [], rfl, rv, rfl⟩
  | n :: ns, [], xs, hl, r => by
    cases (show xs = [] from r)
    cases hl
  | n :: ns, x :: ds, _, hl, r => by
    obtain ⟨u, us, rfl, ru, rt⟩ := r
    by_cases e : n = f
    · refine ⟨v :: us, ?_, ?_, ?_⟩
      · show (if n = f then (n, v) :: ns.zip us else _) = _
        unfold putN
        rw [if_pos e, if_pos e]
        rfl
      · unfold putN; rw [if_pos e]; exact hl
      · unfold putD; rw [if_pos e]; exact ⟨v, us, rfl, rv, rt⟩
    · obtain ⟨ys, a, b, c⟩ := put_ok (f := f) (d := d) rv (ns := ns) (ds := ds) (xs := us) (by simpa using hl) rt
      refine ⟨u :: ys, ?_, ?_, ?_⟩
      · show (if n = f then _ else (n, u) :: putF f v (ns.zip us)) = _
        unfold putN
        rw [if_neg e, if_neg e, a]
        rfl
      · unfold putN; rw [if_neg e]; simp [b]
      · unfold putD; rw [if_neg e]; exact ⟨u, ys, rfl, ru, c⟩
def setFld (j : Nat) (f : Str) (d : D) (E : Nv) : R Fl := match E[j]? with
  | some s => match s.cell with
    | some (.ins c ns ds) => if ns.length < 900 then .val .nx (E.set j (s.put (.ins c (putN f ns) (putD f d ns ds)))) else .bad
    | _ => .bad
  | none => .bad
def fSetFld (j : Nat) (f : Str) (fv : Nv → R D) : Nv → R Fl := fun E => (fv E).bind fun d E1 => (fPk j E1).bind fun _ E2 => setFld j f d E2
theorem fs_setFld {j : Nat} {f : Str} {fv : Nv → R D} (hK : X.K = g.K) (hc : ∀ c, Cls g.K (g.cls c)) (hn : ∀ c, NoAttr g.K (g.cls c) f) (h : PS X st (sFld X.K (tG g W (relA g) (fPk j)) (tG g W (relD g) fv) f)) : FS X g W st (fSetFld j f fv) := psImp h fun D σ H ⟨ρ, G, E, F, st, q⟩ =>
  bindS st q fun d E1 v F1 H1 st1 s1 r1 q1 => by
    refine ⟨ρ, G, E1, F1, st1, ?_⟩
    revert q1
    cases z : fPk j E1 with
    | exc c fs E' => exact fun q1 dx F' H' st' s x => q1 dx σ F' H' st' s x
    | bad => exact fun q1 => q1
    | val a E2 =>
      obtain ⟨rfl, rfl⟩ := fPk_pk z
      intro q1 x F2 H2 st2 s2 hx
      have hx : σ[j]? = some (some x) := hx
      have q1 : postS g W ρ G F1 D (setFld j f d E2) := q1
      unfold setFld at q1
      cases z : E2[j]? with
      | none => simp only [z] at q1; exact q1.elim
      | some s =>
        simp only [z] at q1
        cases c : s.cell with
        | none => simp only [c] at q1; exact q1.elim
        | some cd =>
          simp only [c] at q1
          cases cd with
          | ins k ns ds =>
            simp only at q1
            by_cases hl : ns.length < 900
            · rw [if_pos hl] at q1
              obtain ⟨p, y, fp, _, o, hp, dx, xs, rfl, l1, rl⟩ := st2.at z c
              rw [hx] at y
              cases y
              obtain ⟨ys, a1, a2, a3⟩ := put_ok (f := f) (r1.mono s2) l1 rl
              refine ⟨p, g.cls k, dx, _, rfl, hp, by rw [hK]; exact hc k, by rw [hK]; exact hn k, ?_, ?_⟩
              · rw [List.length_zip]; omega
              · exact q1 σ F2 _ (st2.write z c hx ⟨dx, ys, by rw [a1], a2, a3⟩) s2
            · rw [if_neg hl] at q1; exact q1.elim
          | _ => exact q1.elim
end

end FL

namespace FL
open PySem PySem.Spec PyProof.Rows L2

/-! ## methods of lists -/
theorem meets_extendT (S it : Addr) (c₀ : Nat) (its0 items : Array Value) (o : Obj) (n : Nat) (hlong : ¬ (!its0.isEmpty && Builtin.List.listTooLong (its0.size + items.size)) = true) (hs1 : its0.size ≤ sizeLine) (hs2 : its0.size + items.size ≤ sizeLine + 1) :
    Meets (Builtin.«list.extend» ⟨[.ref S, .ref it], []⟩) (fun _ R s => s.heap.get? S = some { cls := .type "list", dict := none, data := .seq its0 c₀, slots := #[] } ∧ s.heap.get? it = some o ∧ o.cls = .type "tuple" ∧ o.data = .seq items n ∧
      R (.ok (.ret Value.none)) { s with heap := s.heap.update S (Obj.mapSeq fun x => x ++ items), toks := s.toks }) :=
  .of_wp fun prog w A R s h => by
    obtain ⟨hS, ho, hc, hd, hR⟩ := h
    have hz' : (its0 ++ items).size ≤ sizeLine + 1 := by rw [Array.size_append]; exact hs2
    show wpAny _ A.in1 (Builtin.List.listExtendWith (.ref S) (.ref it) .none) _ _ s
    unfold Builtin.List.listExtendWith
    refine wpAny_bind (wpAny_typeOf ⟨o, ho, hc⟩ ?_)
    have h1 : (Builtin.List.listSameRef (.ref S) (.ref it) || Value.type "tuple" == Value.type "list" || Value.type "tuple" == Value.type "tuple") = true := by simp
    simp only [h1, if_true]
    refine wpAny_bind ?_
    unfold Builtin.List.listItems
    refine wpAny_bind (wpAny_seqItems ho hd (wpAny_pure ?_))
    refine wpAny_bind ?_
    refine wpAny_bind (wpAny_seqItems hS rfl (wpAny_pure ?_))
    rw [if_neg hlong]
    show wpAny _ A.in1 (updateSeq S (· ++ items) >>= fun _ => ret .none) _ _ s
    refine wpAny_bind (wpAny_updateSeq hS rfl (hz := hs1) (_hz' := hz') ?_)
    exact wpAny_pure ⟨_, rfl, hR⟩
def rExtendT (K : PySem.W.Frag) : V → List V → Hp → VK → Prop := fun x vs H Q => ∃ l b xs zs, x = .ref l ∧ vs = [.ref b] ∧ H l = some (.lst xs) ∧ SqT K H b zs ∧ xs.length + zs.length ≤ sizeLine ∧ Q .non (upd H l (.lst (xs ++ zs)))
theorem mt_extendT {X : Cx} : MtR X "list.extend" (rExtendT X.K) := by
  intro pins s σ H x vs v us Q I rx rv h
  obtain ⟨l, b, xs, zs, rfl, rfl, hH, hB, hz, q⟩ := h
  cases rx
  obtain ⟨u, rfl, ru⟩ := rv.one
  cases ru
  obtain ⟨z, its, n, r, hl, e⟩ := I.lstM hH
  obtain ⟨its2, r2, ⟨o, ho, hc, n2, hd⟩, hz2⟩ := I.tuple hB
  have l2 := r2.length
  have hsz : its.toArray.size + its2.toArray.size ≤ sizeLine := by rw [List.size_toArray, List.size_toArray]; omega
  have hlong : ¬ (!its.toArray.isEmpty && Builtin.List.listTooLong (its.toArray.size + its2.toArray.size)) = true := by
    rw [notLongL hsz, Bool.and_false]
    exact Bool.false_ne_true
  refine call_meets F.slot_list_extend ⟨_, e, rfl⟩ F.entry_list_extend (F.args_list_extend_2 _ _)
    (meets_extendT l b n its.toArray its2.toArray o n2 hlong (by rw [List.size_toArray]; omega) (by omega)) ⟨e, ho, hc, hd, ?_⟩
  refine ⟨.non, _, I.lset (its' := its ++ its2) hH e (by simp) (r.append r2) ?_, rfl, q⟩
  rw [List.length_append]
  omega
def mAppend : D → List D → Option (D × D)
  | .lst ds, [d] => if ds.length < sizeLine then some (.non, .lst (ds ++ [d])) else none
  | _, _ => none
def mExtend : D → List D → Option (D × D)
  | .lst ds, [.lst es] => if ds.length + es.length ≤ sizeLine then some (.non, .lst (ds ++ es)) else none
  | .lst ds, [.tup es] => if ds.length + es.length ≤ sizeLine then some (.non, .lst (ds ++ es)) else none
  | _, _ => none
def mPop : D → List D → Option (D × D)
  | .lst ds, [] => match ds[ds.length - 1]? with
    | some d => some (d, .lst ds.dropLast)
    | none => none
  | _, _ => none
def mInsert : D → List D → Option (D × D)
  | .lst ds, [.int i, d] => if ds.length < sizeLine ∧ 0 ≤ i ∧ i ≤ 1000000 then some (.non, .lst (ds.take i.toNat ++ [d] ++ ds.drop i.toNat)) else none
  | _, _ => none
def mPopAt : D → List D → Option (D × D)
  | .lst ds, [.int i] => if 0 ≤ i ∧ i ≤ 1000000 then (match ds[i.toNat]? with
    | some d => some (d, .lst (ds.eraseIdx i.toNat))
    | none => none) else none
  | _, _ => none
section
variable {g : Gm}
theorem RepL.eraseIdx {F : Hp} : ∀ {ds : List D} {vs : List V} (i : Nat), RepL g F ds vs → RepL g F (ds.eraseIdx i) (vs.eraseIdx i)
  | [], _, _, h => by cases (show _ = [] from h); exact rfl
  | _ :: _, _, 0, h => by
    obtain ⟨x, xs, rfl, r, t⟩ := h
    exact t
  | _ :: _, _, i + 1, h => by
    obtain ⟨x, xs, rfl, r, t⟩ := h
    exact ⟨x, _, rfl, r, RepL.eraseIdx i t⟩
theorem mtok_insert : MtOk g (fun x vs H Q => ∃ (l : Addr) (xs : List V) (i : Int) (y : V), x = .ref l ∧ vs = [.int i, y] ∧ H l = some (.lst xs) ∧ xs.length < sizeLine ∧ 0 ≤ i ∧ i < 2 ^ 63 ∧ Q .non (upd H l (.lst (xs.take i.toNat ++ [y] ++ xs.drop i.toNat)))) mInsert := by
  intro F H p ob vs d z d' ds Q sf fp hp ow r ho k
  unfold mInsert at ho
  split at ho
  · rename_i es i x
    obtain ⟨⟨hl, h0, h1⟩, e⟩ := iteSome ho
    cases e
    obtain ⟨xs, rfl, rl⟩ := ow
    obtain ⟨u, us, rfl, ru, y, ys, rfl, ry, e0⟩ := r
    cases (show ys = [] from e0)
    obtain rfl : u = .int i := ru
    exact ⟨p, xs, i, y, rfl, rfl, hp, by rw [← rl.length]; exact hl, h0, by omega, k _ _ ⟨_, rfl, ((rl.take _).append (RepL.cons ry RepL.nil)).append (rl.drop _)⟩ rfl⟩
  · cases ho
theorem mtok_popAt : MtOk g rPopAt mPopAt := by
  intro F H p ob vs d z d' ds Q sf fp hp ow r ho k
  unfold mPopAt at ho
  split at ho
  · rename_i es i
    split at ho
    · rename_i hi
      split at ho
      · rename_i x hx
        cases ho
        obtain ⟨xs, rfl, rl⟩ := ow
        obtain ⟨u, us, rfl, ru, e0⟩ := r
        cases (show us = [] from e0)
        obtain rfl : u = .int i := ru
        obtain ⟨v, a, b⟩ := rl.get hx
        have hlt := (List.getElem?_eq_some_iff.mp a).1
        refine ⟨p, xs, i, i.toNat, v, rfl, rfl, hp, by omega, by omega, ?_, a, k _ _ ⟨_, rfl, rl.eraseIdx _⟩ b⟩
        have e1 : ¬ i < 0 := by omega
        have e2 : (decide (0 ≤ i) && decide (i < (xs.length : Int))) = true := by simp only [Bool.and_eq_true, decide_eq_true_eq]; omega
        unfold seqIndex?
        simp only [if_neg e1, e2, if_true]
      · cases ho
    · cases ho
  · cases ho
theorem mtok_append : MtOk g rAppend mAppend := by
  intro F H p ob vs d z d' ds Q sf fp hp ow r ho k
  unfold mAppend at ho
  split at ho
  · rename_i es x
    obtain ⟨hl, e⟩ := iteSome ho
    cases e
    obtain ⟨xs, rfl, rl⟩ := ow
    obtain ⟨y, ys, rfl, ry, e0⟩ := r
    cases (show ys = [] from e0)
    exact ⟨p, xs, y, rfl, rfl, hp, by rw [← rl.length]; exact hl, k _ _ ⟨_, rfl, rl.append ⟨y, [], rfl, ry, rfl⟩⟩ rfl⟩
  · cases ho
def rExtA (K : PySem.W.Frag) : V → List V → Hp → VK → Prop := fun x xs H Q => rExtend x xs H Q ∨ rExtendT K x xs H Q
theorem mt_extendA {X : Cx} : MtR X "list.extend" (rExtA X.K) := MtR.or mt_extend mt_extendT
theorem mtok_extend : MtOk g (rExtA g.K) mExtend := by
  intro F H p ob vs d z d' ds Q sf fp hp ow r ho k
  unfold mExtend at ho
  split at ho
  · rename_i es fs
    obtain ⟨hl, e⟩ := iteSome ho
    cases e
    obtain ⟨xs, rfl, rl⟩ := ow
    obtain ⟨y, ys, rfl, ⟨q, us, rfl, hq, ru⟩, e0⟩ := r
    cases (show ys = [] from e0)
    exact .inl ⟨p, q, xs, us, rfl, rfl, hp, sf _ _ hq, by rw [← rl.length, ← ru.length]; exact hl, k _ _ ⟨_, rfl, rl.append ru⟩ rfl⟩
  · rename_i es fs
    obtain ⟨hl, e⟩ := iteSome ho
    cases e
    obtain ⟨xs, rfl, rl⟩ := ow
    obtain ⟨y, ys, rfl, ⟨q, us, rfl, hq, ru⟩, e0⟩ := r
    cases (show ys = [] from e0)
    exact .inr ⟨p, q, xs, us, rfl, rfl, hp, same_t sf hq, by rw [← rl.length, ← ru.length]; exact hl, k _ _ ⟨_, rfl, rl.append ru⟩ rfl⟩
  · cases ho
theorem mtok_pop : MtOk g rPop mPop := by
  intro F H p ob vs d z d' ds Q sf fp hp ow r ho k
  unfold mPop at ho
  split at ho
  · rename_i es
    split at ho
    · rename_i x hx
      cases ho
      obtain ⟨xs, rfl, rl⟩ := ow
      cases (show vs = [] from r)
      obtain ⟨v, a, b⟩ := rl.get hx
      exact ⟨p, xs, v, rfl, rfl, hp, by rw [← rl.length]; exact a, k _ _ ⟨_, rfl, rl.dropLast⟩ b⟩
    · cases ho
  · cases ho
end

/-! ## instances -/
section
variable {g : Gm} {ρ : Nat → Addr} {G F H : Hp} {E : Nv} {σ : L2.St} {W : WX} {X : Cx} {e : Expr}
theorem StOk.junk {p : Addr} (st : StOk g ρ G E F σ H) (h : H p = none) (o : HO) : StOk g ρ G E F σ (upd H p o) := (st.temp h o).untemp (st.fG h)
theorem StOk.push {p : Addr} {o : HO} {d : D} (st : StOk g ρ (upd G p o) E F σ H) (gn : G p = none) (ow : OwnO g F d o) : StOk g ρ G (E ++ [.own d]) F (σ ++ [some (.ref p)]) H := by
  have s1 : StOk g ρ (upd G p o) (E ++ [.no]) F (σ ++ [none]) H := st.reslot (by simp [st.len]) fun i s h => by
    by_cases hi : i < E.length
    · rw [List.getElem?_append_left hi] at h
      exact .inl ⟨h, List.getElem?_append_left (by rw [← st.len]; exact hi)⟩
    · rw [List.getElem?_append_right (by omega)] at h
      have : s ∈ [Sl.no] := List.mem_of_getElem? h
      exact .inr (.inl (by simpa using this))
  have s2 := s1.take (i := E.length) gn ow
  have e1 : (E ++ [Sl.no]).set E.length (.own d) = E ++ [.own d] := by simp
  have e2 : (σ ++ [none]).set E.length (some (.ref p)) = σ ++ [some (.ref p)] := by rw [st.len]; simp
  rw [e1, e2] at s2
  exact s2
theorem StOk.popSlot {E2 : Nv} {x : Option V} {n : Nat} (st : StOk g ρ G E2 F (σ ++ [x]) H) (hn : n = σ.length) : StOk g ρ G (E2.take n) F σ H := st.reslot (by rw [List.length_take, st.len, List.length_append]; simp; omega) fun i s h => by
  have hi : i < n := by
    have := (List.getElem?_eq_some_iff.mp h).1
    rw [List.length_take] at this
    omega
  rw [List.getElem?_take_of_lt hi] at h
  exact .inl ⟨h, (List.getElem?_append_left (by omega)).symm⟩
theorem ArsOk.push {x : Option V} : ∀ {as : List Ar} {vs : List V}, ArsOk g F σ as vs → ArsOk g F (σ ++ [x]) as vs
  | [], _, h => h
  | a :: as, _, ⟨v, vs, e, r, t⟩ => ⟨v, vs, e, by
    cases a with
    | v d => exact r
    | pk i =>
      have r : σ[i]? = some (some v) := r
      show (σ ++ [x])[i]? = some (some v)
      rw [List.getElem?_append_left (List.getElem?_eq_some_iff.mp r).1]
      exact r, t.push⟩
def resMk (c : Nat) (fn : Fn) (ars : List Ar) (E : Nv) : R D := match resC fn (.pk E.length :: ars) (E ++ [.own (.ins c [] [])]) with
  | .val .non E2 => match E2[E.length]? with
    | some (.own d) => .val d (E2.take E.length)
    | _ => .bad
  | .exc k f E2 => .exc k f (E2.take E.length)
  | _ => .bad
def fMake (c : Nat) (fn : Fn) (fs : Nv → R (List Ar)) : Nv → R D := fun E => (fs E).bind fun as E1 => resMk c fn as E1
def tMakeS (C : Addr) (sp : Sp) (Ew : L2.St → XK) (t : TA) : TE := fun σ H Q => t σ H fun vs H1 => ∀ x dx, H1 x = none → H1 dx = none → dx ≠ x →
  sp (.ref x :: vs) (upd (upd H1 dx (.own x)) x (.ins C dx [])) (fun v H2 => v = .non ∧ Q (.ref x) H2) (Ew σ)
theorem run_makeS {CX : CXT} {k : Nat} {f C : Addr} {fd : FuncData} {ps : List Str} {sp : Sp} {Ew : L2.St → XK} {pins : List (Addr × Obj)} {s : Shared} {Q : VK} {us : List Value} {vs : List V} (M : Mk X.K C f) (Fo : FnOk X.prog X.w X.K X.mg X.base CX k f fd ps sp) (hr : Room (k + 1) X.A) (hb : Binds X.K fd ps [])
    (hx : PassesAt CX X σ (Ew σ)) (I : Inv X pins σ H s) (r : Vals vs us)
    (h : ∀ x dx, H x = none → H dx = none → dx ≠ x → sp (.ref x :: vs) (upd (upd H dx (.own x)) x (.ins C dx [])) (fun v H2 => v = .non ∧ Q (.ref x) H2) (Ew σ)) :
    wpAny (model X.prog X.w) X.A (call (.ref C) us) (EP X pins σ Q) X.xe s := by
  have hq := h (s.heap.objs.size + 1) s.heap.objs.size (I.hok.fresh (Nat.le_succ _)) (I.hok.fresh (Nat.le_refl _)) (Nat.ne_of_lt (Nat.lt_succ_self _))
  have I2 := Inv.made (C := C) I
  have r2 : Vals (V.ref (s.heap.objs.size + 1) :: vs) (Value.ref (s.heap.objs.size + 1) :: us) := .cons rfl r
  have hl : (Value.ref (s.heap.objs.size + 1) :: us).length = ps.length := by
    have e := r2.length
    rw [Fo.len _ _ _ _ hq] at e
    exact e.symm
  have b := hb _ (Value.ref (s.heap.objs.size + 1) :: us) I2.kIn (by rw [List.append_nil]; exact hl)
  rw [List.append_nil] at b
  refine wpAny_call (make_map (f := f) I.kIn M.makes M.init (beq_iff_eq.mp M.fn) (codeAny_mono (Fo.run _ X.stack _ _ ⟨Value.ref (s.heap.objs.size + 1) :: us, []⟩ (Value.ref (s.heap.objs.size + 1) :: us) _ _ (Ew σ) (hr.make C us [])
    (I2.env0.make C us []) b r2 hq) fun r s' hq' => ?_))
  cases r with
  | error e => exact hx pins _ _ e s' I2 hq'
  | ok fl =>
    cases fl with
    | ret u =>
      obtain ⟨v, H', I3, rv, ev, q3⟩ := I2.after hq'
      subst ev
      exact ⟨rv, ⟨V.ref (s.heap.objs.size + 1), H', I3, rfl, q3⟩⟩
    | next => exact False.elim hq'
    | brk => exact False.elim hq'
    | cont => exact False.elim hq'
theorem pe_makeS {CX : CXT} {k : Nat} {f C : Addr} {fd : FuncData} {ps : List Str} {sp : Sp} {Ew : L2.St → XK} {x : Str} {p pos : Pos} {es : List Expr} {t : TA} (M : Mk X.K C f) (Fo : FnOk X.prog X.w X.K X.mg X.base CX k f fd ps sp) (hr : Room (k + 1) X.A) (hg : Gl X x) (hm : X.mg x = some (.ref C)) (hb : Binds X.K fd ps []) (hx : ∀ σ, PassesAt CX X σ (Ew σ))
    (ha : PA X (e :: es) t) (hdb : (x == ("__debug__" : Str)) = false := by decide) (he : starEach (e :: es) X.env = (false, eval e X.env) :: starEach es X.env := by rfl) (hpl : (backTo pos (starEach es X.env)).any (·.1) = false := by rfl) :
    PE X (.Call (.Name x p) (e :: es) [] pos) (tMakeS C sp Ew t) := by
  refine ⟨fun pins s σ H Q I h => ?_⟩
  refine wpAny_Call_Name_kw (ld_glob I hg hm ?_ hdb)
  refine PySem.W.callWith_K (h₀ := X.base) I.ok.mod.kin M.kp (thn (ha.run pos pins s σ H _ I h) fun us s1 ⟨vs, H1, I1, r, q⟩ => ⟨I1.kIn, ?_⟩) he hpl
  exact run_makeS M Fo hr hb (hx σ) I1 r q
theorem resMk_ok {c n : Nat} {fn : Fn} {ars : List Ar} {vs : List V} {Q : VK} (st : StOk g ρ G E F σ H) (ra : ArsOk g F σ ars vs) (hn : vs.length + 1 = n) (q : postN g W ρ G F σ Q (resMk c fn ars E)) :
    ∀ x dx, H x = none → H dx = none → dx ≠ x → spF g n fn (.ref x :: vs) (upd (upd H dx (.own x)) x (.ins (g.cls c) dx [])) (fun v H2 => v = .non ∧ Q (.ref x) H2) (WE W σ) := by
  intro x dx hx hdx ne
  have hx' : (upd H dx (.own x)) x = none := by rw [upd_ne (Ne.symm ne)]; exact hx
  have st1 := (st.junk hdx (.own x)).temp hx' (.ins (g.cls c) dx [])
  have gx := st.fG hx
  have st2 := st1.push (d := .ins c [] []) gx ⟨dx, [], rfl, rfl, rfl⟩
  have hl : E.length = σ.length := st.len
  have ra2 : ArsOk g F (σ ++ [some (.ref x)]) (.pk E.length :: ars) (.ref x :: vs) := ⟨_, _, rfl, by show (σ ++ [some (V.ref x)])[E.length]? = _; rw [hl]; simp, ra.push⟩
  have key : spF g n fn (.ref x :: vs) (upd (upd H dx (.own x)) x (.ins (g.cls c) dx [])) (fun v H2 => v = .non ∧ Q (.ref x) H2) (WE (fun cls d _ H => W cls d σ H) (σ ++ [some (.ref x)])) := by
    refine resC_ok (W := fun cls d _ H => W cls d σ H) st2 ra2 (by simpa using hn) ?_
    unfold resMk at q
    revert q
    cases resC fn (.pk E.length :: ars) (E ++ [.own (.ins c [] [])]) with
    | bad => exact fun q => q
    | exc k f E2 => exact fun q d' F' H' st' s xr => q d' F' H' (st'.popSlot hl) s xr
    | val d E2 =>
      cases d with
      | non =>
        simp only
        cases z : E2[E.length]? with
        | none => exact fun q => q.elim
        | some s =>
          cases s with
          | own d' =>
            intro q v F' H' st' ss r
            have lk : (σ ++ [some (V.ref x)])[E.length]? = some (some (.ref x)) := by rw [hl]; simp
            obtain ⟨p, y, f1, g1, o, hp, ow⟩ := st'.at z rfl
            rw [lk] at y
            cases y
            obtain ⟨st3, gn, ow'⟩ := st'.give z rfl lk hp
            have st4 := st3.popSlot hl
            have e3 : (E2.set E.length Sl.no).take E.length = E2.take E.length := by
              rw [List.take_set_of_le (Nat.le_refl _)]
            rw [e3] at st4
            exact ⟨r, q x o F' H' st4 gn ow' ss⟩
          | _ => exact fun q => q.elim
      | _ => exact fun q => q.elim
  exact key
theorem fn_make {c n : Nat} {fn : Fn} {fs : List (Nv → R Ar)} (h : PE X e (tMakeS (g.cls c) (spF g n fn) (WE W) (tG g W (relAs g) (fAs fs)))) (hn : fs.length + 1 = n) : FN X g W e (fMake c fn (fAs fs)) := peImp h fun σ H Q ⟨ρ, G, E, F, st, q⟩ =>
  bindAN st q fun a E1 b F1 H1 la st1 s1 r1 q1 => resMk_ok st1 r1 (by rw [← r1.length, la, hn]) q1

/-! ## an own == -/
def rEqI (C : Addr) (sp : Sp) (K : PySem.W.Frag) : R2 := fun x y H Q => ∃ a dx fs t, x = .ref a ∧ H a = some (.ins C dx fs) ∧ TyX K H y t ∧ PySem.W.notFirst K C t = true ∧ sp [x, y] H (fun v H' => ∃ k, v = .bl k ∧ Q (.bl k) H') E0
theorem op_eqI {C f : Addr} {fd : FuncData} {ps : List Str} {n : Nat} {sp : Sp} (Fo : FnOk X.prog X.w X.K X.mg X.base (L2.CX X.prog X.w) n f fd ps sp)
    (hs : PySem.W.findIn X.K (.ref C) "__eq__" = some (some (.ref f))) (hf : PySem.W.isFn X.K (.ref f) = true) (hb : Binds X.K fd ps []) (hr : Room n X.A) : OpR X (compareOp .Eq) (rEqI C sp X.K) := by
  intro pins s σ H x y v u Q I rx ry h
  obtain ⟨a, dx, fs, t, rfl, ha, ty, nf, hsp⟩ := h
  cases rx
  show wpAny (model X.prog X.w) X.A (richCompare .Eq (.ref a) u) (EP X pins σ Q) X.xe s
  obtain ⟨mA, J, _⟩ := ins_get I.hok ha
  obtain ⟨od, J, _⟩ := J.look
  obtain ⟨m, hF⟩ := I.fr
  obtain ⟨P, Z, hP, _⟩ := kit_of I ry ty
  have hl := Fo.len _ _ _ _ hsp
  have r2 : Vals [V.ref a, y] [Value.ref a, u] := .cons rfl (.cons ry .nil)
  -- what comes back is True or False
  refine PySem.W.cmp_K (op := .Eq) (tb := t) hr.units0 hF I.ok.mod.kin J (Z.ty _ _ I.kIn hP) nf hs hf ?_
  refine wpAny_call (codeAny_mono (Fo.run X.A X.stack s H ⟨[.ref a, u], []⟩ [.ref a, u] [.ref a, y] _ E0 hr I.env0 (by
    have := hb s [.ref a, u] I.kIn (by simpa using hl)
    simpa using this) r2 hsp) fun r s' hq => ?_)
  cases r with
  | error e => exact (passL pins σ H s e s' I hq)
  | ok fl =>
    cases fl with
    | ret w =>
      obtain ⟨z, H', I', rz, k, ez, qz⟩ := I.after hq
      subst ez
      cases rz
      exact ⟨.bl k, H', I', rfl, qz⟩
    | next => exact False.elim hq
    | brk => exact False.elim hq
    | cont => exact False.elim hq
/-- no class is a subclass of another one -/
def Apart (g : Gm) (N : Nat) : Prop := ∀ c c', c < N → c' < N → c ≠ c' → PySem.W.subIn g.K (.ref (g.cls c')) (.ref (g.cls c)) = some false
def eqKind (N c : Nat) : D → Bool
  | .ins c' _ _ => c' == c || (decide (c < N) && decide (c' < N))
  | x => (tyName x).isSome
def resEq (N c : Nat) (fn : Fn) (a b : Ar) (E : Nv) : R D := match a.get E, b.get E with
  | some (.ins c1 _ _), some y => if c1 = c ∧ eqKind N c y = true then (resC fn [a, b] E).nox.bind fun d E2 => match asB d with
    | some k => .val (.bl k) E2
    | none => .bad else .bad
  | _, _ => .bad
def fEqI (N c : Nat) (fn : Fn) (fa fb : Nv → R Ar) : Nv → R D := fun E => (fa E).bind fun a E1 => (fb E1).bind fun b E2 => resEq N c fn a b E2
theorem eqKind_ok {N c : Nat} {y : D} {u : V} (hI : ∀ c, InsTy g c) (hA : Apart g N) (sf : Same F H) (r : RepH g F H y u) (h : eqKind N c y = true) : ∃ t, TyX g.K H u t ∧ PySem.W.notFirst g.K (g.cls c) t = true := by
  have base : ∀ t, isIns y = false → tyName y = some t → ∃ t, TyX g.K H u t ∧ PySem.W.notFirst g.K (g.cls c) t = true := fun t hi ht => by
    obtain ⟨h1, h2⟩ := tyx_of sf r hi ht
    refine ⟨_, h1, ?_⟩
    unfold PySem.W.notFirst
    rw [sub_own t h2]
    simp
  cases y with
  | ins c' ns ds =>
    obtain ⟨a, dx, xs, rfl, q, _⟩ := r.ins sf
    obtain ⟨cl, ha, hn, htk, hm, _, _, _⟩ := hI c'
    refine ⟨_, .base (.ins q cl ha hn htk hm), ?_⟩
    unfold PySem.W.notFirst
    by_cases e : c' = c
    · subst e
      simp
    · have h : c < N ∧ c' < N := by simpa [eqKind, e] using h
      rw [hA c c' h.1 h.2 (fun z => e z.symm)]
      simp
  | _ =>
    unfold eqKind at h
    obtain ⟨t, ht⟩ := Option.isSome_iff_exists.mp h
    exact base t rfl ht
theorem le_eqI {N c : Nat} {fn : Fn} {fa fb : Nv → R Ar} {Q : VK} (hI : ∀ c, InsTy g c) (hA : Apart g N) (h : tG g W (relD g) (fEqI N c fn fa fb) σ H Q) : tOp (rEqI (g.cls c) (spF g 2 fn) g.K) (tG g W (relA g) fa) (tG g W (relA g) fb) σ H Q := by
  obtain ⟨ρ, G, E, F, st, q⟩ := h
  refine bindE st q fun x E1 v F1 H1 st1 s1 r1 q1 => ?_
  refine bindE st1 q1 fun y E2 u F2 H2 st2 s2 r2 q2 => ?_
  unfold resEq at q2
  cases z1 : x.get E2 with
  | none => simp only [z1] at q2; exact q2.elim
  | some d =>
    cases z2 : y.get E2 with
    | none => simp only [z1, z2] at q2; cases d <;> exact q2.elim
    | some e =>
      simp only [z1, z2] at q2
      cases d with
      | ins c1 ns ds =>
        simp only at q2
        by_cases hc : c1 = c ∧ eqKind N c e = true
        · rw [if_pos hc] at q2
          obtain ⟨rfl, hk⟩ := hc
          have rx := r1.mono s2
          obtain ⟨p, dx, xs, rfl, hp, _⟩ := (ar_ok st2 rx z1).ins st2.sf
          obtain ⟨t, ty, nf⟩ := eqKind_ok hI hA st2.sf (ar_ok st2 r2 z2) hk
          refine ⟨p, dx, _, t, rfl, hp, ty, nf, ?_⟩
          refine resC_ok (W := W0) (ars := [x, y]) st2 ⟨_, _, rfl, rx, _, _, rfl, r2, rfl⟩ rfl ?_
          revert q2
          cases resC fn [x, y] E2 with
          | bad => exact fun q => q
          | exc k f E' => exact fun q => q.elim
          | val d E' =>
            intro q v F' H' st' ss r
            have q : post g W (relD g) ρ G F2 σ Q (match asB d with | some k => .val (.bl k) E' | none => .bad) := q
            cases d with
            | bl k =>
              obtain rfl : v = .bl k := r
              exact ⟨k, rfl, q _ F' H' st' ss rfl⟩
            | _ => exact q.elim
        · rw [if_neg hc] at q2; exact q2.elim
      | _ => exact q2.elim
theorem fe_eqI {N c : Nat} {fn : Fn} {fa fb : Nv → R Ar} (hI : ∀ c, InsTy g c) (hA : Apart g N) (h : PE X e (tOp (rEqI (g.cls c) (spF g 2 fn) g.K) (tG g W (relA g) fa) (tG g W (relA g) fb))) : FE X g W e (fEqI N c fn fa fb) := peImp h fun _ _ _ q => le_eqI hI hA q
theorem ft_eqI {N c : Nat} {fn : Fn} {fa fb : Nv → R Ar} (hI : ∀ c, InsTy g c) (hA : Apart g N) (h : PT X e (tTest (tOp (rEqI (g.cls c) (spF g 2 fn) g.K) (tG g W (relA g) fa) (tG g W (relA g) fb)))) : FT X g W e (fTest (fEqI N c fn fa fb)) := ptImp h fun _ _ _ q => le_test (fun _ _ _ => le_eqI hI hA) q
end

/-! ## enumerate -/
end FL
namespace PySem
open Sem (wp)
open AutoSeq1 (wpAny_loadPart')
theorem fl_meets_enumerate_newT (l : Addr) (items : Array Value) (n : Nat) (dct : Option Addr) (sl : Array (Option Value)) :
    Meets (Builtin.«enumerate.__new__» ⟨[.type "enumerate", .ref l], []⟩) (fun _ R s => s.heap.get? l = some { cls := .type "tuple", dict := dct, data := .seq items n, slots := sl } ∧
      R (.ok (.ret (.ref (s.heap.push { cls := .type "tuple_iterator", data := .fields #[.ref l, .int 0 0] }).objs.size)))
        { s with heap := (s.heap.push { cls := .type "tuple_iterator", data := .fields #[.ref l, .int 0 0] }).push { cls := .type "enumerate", data := .fields #[.none, .bool false, .ref s.heap.objs.size, rawInt 0, .none, .none] } }) :=
  .of_wp fun prog w A R s h => by
    obtain ⟨hp, g, d, tk, os⟩ := s; obtain ⟨hl, h⟩ := h
    have hsub := sub_enumerate
    have hL : Heap.IsTuple (Shared.heap ⟨hp, g, d, tk, os⟩) l items := ⟨_, hl, rfl, n, rfl⟩
    wp_walk using wpAny_loadPart' hl
    refine wpAny_stack_any fun st => wpAny_pure ?_
    split
    · rename_i c _ _ _ _ _
      cases (c == Value.type "enumerate")
      · wp_walk using wpAny_loadPart' hl, wpAny_pyIter_tuple hL
        exact ⟨_, rfl, h⟩
      · wp_walk using wpAny_loadPart' hl, wpAny_pyIter_tuple hL
        exact ⟨_, rfl, h⟩
    · wp_walk using wpAny_loadPart' hl, wpAny_pyIter_tuple hL
      exact ⟨_, rfl, h⟩
theorem fl_call_enumerate_tuple {prog : Program} {w : World} {A : Around} {E : Value → Shared → Prop} {s : Shared} {l : Addr} {items : Array Value} {Q : Value → Shared → Prop} (hL : s.heap.IsTuple l items)
    (h : ∀ h', IsEnum h' (s.heap.objs.size + 1) s.heap.objs.size 0 .none → h'.IsTupleIter s.heap.objs.size l 0 → h'.objs.size = s.heap.objs.size + 2 →
      (∀ b o, s.heap.get? b = some o → h'.get? b = some o) → Q (.ref (s.heap.objs.size + 1)) { s with heap := h' }) :
    wpAny (model prog w) A (call (.type "enumerate") [.ref l]) Q E s := by
  obtain ⟨⟨c, dct, dt, sl⟩, hl, hc, n, hd⟩ := hL
  replace hc : c = .type "tuple" := hc
  replace hd : dt = .seq items n := hd
  subst hc hd
  refine callType_new F.called_enumerate (by decide) (F.typeCall_enumerate_1 _) (F.newCall_enumerate_1 _) (fun obj => F.args_object_init_2 obj _) F.entry_enumerate_new
    (fl_meets_enumerate_newT l items n dct sl) ⟨hl, ?_⟩
  have hz : (s.heap.push { cls := .type "tuple_iterator", data := .fields #[.ref l, .int 0 0] }).objs.size = s.heap.objs.size + 1 := Heap.size_push ..
  show _ ∧ _
  rw [hz]
  have he : IsEnum ((s.heap.push { cls := .type "tuple_iterator", data := .fields #[.ref l, .int 0 0] }).push
      { cls := .type "enumerate", data := .fields #[.none, .bool false, .ref s.heap.objs.size, rawInt 0, .none, .none] }) (s.heap.objs.size + 1) s.heap.objs.size 0 .none := by
    have := Heap.get?_push_size (s.heap.push { cls := .type "tuple_iterator", data := .fields #[.ref l, .int 0 0] })
      (o := { cls := .type "enumerate", data := .fields #[.none, .bool false, .ref s.heap.objs.size, rawInt 0, .none, .none] }) rfl
    rw [hz] at this; exact this
  refine ⟨⟨_, he, rfl⟩, h _ he ⟨_, Heap.get?_push_of_some _ (Heap.get?_push_size _ rfl), rfl, rfl⟩ (by rw [Heap.size_push, hz]) fun b o x => Heap.get?_push_of_some _ (Heap.get?_push_of_some _ x)⟩
end PySem
namespace FL
open PySem PySem.Spec PyProof.Rows L2
def IteT (K : PySem.W.Frag) (a : Addr) : It :=
  ⟨fun i H => ∃ (xs : List V) (x : V), SqT K H a xs ∧ xs[i]? = some x, fun i H v H' => ∃ T x, v = .ref T ∧ H T = none ∧ H' = upd H T (.tup [.int (i : Nat), x]) ∧ ∀ xs, SqT K H a xs → xs[i]? = some x, fun i H => ∃ xs : List V, SqT K H a xs ∧ xs.length = i⟩
theorem turn_enumT {P : Program} {w : World} {K : PySem.W.Frag} {elts : List Expr} {kk : Nat} {tpos : Pos} (a e it : Addr) (hai : a ≠ it) (hae : a ≠ e) :
    Turn P w K (.Tuple elts kk tpos) (IteT K a) [e, it] e (fun i h => (∃ old, IsEnum h e it ((i : Nat) : Int) old) ∧ h.IsTupleIter it a i ∧ e ≠ it) where
  mem := by simp
  obj := fun i h st b hb => by
    obtain ⟨⟨old, he⟩, ⟨o, ho, hc, hd⟩, _⟩ := st
    have e' : b = e ∨ b = it := by simpa using hb
    rcases e' with z | z
    · rw [z]; exact ⟨_, he, fun v q => nomatch q⟩
    · rw [z]; exact ⟨o, ho, fun v q => by rw [hd] at q; cases q⟩
  keep := fun i h h' st k => let ⟨⟨old, he⟩, hi, hne⟩ := st; ⟨⟨old, k e (by simp) _ he⟩, hi.at fun o q => k it (by simp) o q, hne⟩
  item := by
    intro X hP hw hK hc i pins s σ H E I hf st hg
    subst hP hw hK
    obtain ⟨⟨old, he⟩, hit, hne⟩ := st
    obtain ⟨xs, x, hq, hx⟩ := hg
    obtain ⟨its, rv, p, hz⟩ := I.tuple hq
    obtain ⟨u, hu, ru⟩ := rv.get hx
    have hel : e < s.heap.objs.size := Heap.lt_size he
    have hil : it < s.heap.objs.size := by obtain ⟨_, q, _⟩ := hit; exact Heap.lt_size q
    have D := Draws.tuple (prog := X.prog) (w := X.w) (A := X.A.in1) (I.ok.hd hc) it a hai its.toArray
    have hlt : i < its.toArray.size := by
      have := (List.getElem?_eq_some_iff.mp hu).1
      simpa using this
    have pT : s.heap.IsTuple a its.toArray := p
    refine wpAny_pyNext_enum_itemD D he ⟨hit, pT⟩ hlt hne (by simp; exact ⟨hne, Ne.symm hae⟩) fun y h' tk hP ho hs' hT hsz hk => ?_
    have ey : y = u := by
      have e1 : its[i]? = some y := by simpa using hP
      rw [hu] at e1
      exact (Option.some.inj e1).symm
    subst ey
    refine ⟨_, rfl, wpAny_letOwnedTupleGo_enum (s := { s with heap := h', toks := tk + 1 }) ho fun h'' he' sb => ?_⟩
    have hT2 : h''.get? s.heap.objs.size = some { cls := .type "tuple", data := .seq #[.int i tk, y] } := (sb.2 _ (Nat.ne_of_gt hel)).trans hT
    have new : ObjOk X.prog X.w (upd H s.heap.objs.size (.tup [.int (i : Nat), x])) h'' s.heap.objs.size (.tup [.int (i : Nat), x]) :=
      ⟨by show 2 ≤ sizeLine; decide, [.int i tk, y], .cons ⟨_, rfl⟩ (.cons ru .nil), ⟨_, hT2, rfl, _, rfl⟩⟩
    have I1 : Inv X pins σ (upd H s.heap.objs.size (.tup [.int (i : Nat), x])) { s with heap := h'', toks := tk + 1 } :=
      I.turnedNew (ch := [e, it]) (fun b ob hb q => (sb.2 b (fun z => hb (by simp [z]))).trans (hk b ob (fun z => hb (by simp [z])) (fun z => hb (by simp [z])) q)) hf (Nat.le_refl _) new
    refine ⟨.ref s.heap.objs.size, _, I1, rfl, ⟨_, x, rfl, I.hok.fresh (Nat.le_refl _), rfl, fun ys hy => by rw [I.tuple_inj hy hq]; exact hx⟩, ⟨⟨y, ?_⟩, hs'.1.at fun o q => (sb.2 it (Ne.symm hne)).trans q, hne⟩, fun b hb => ?_⟩
    · have e1 : ((i + 1 : Nat) : Int) = (i : Int) + 1 := by omega
      rw [e1]; exact he'
    · have hb' : b < s.heap.objs.size := by
        have e' : b = e ∨ b = it := by simpa using hb
        rcases e' with z | z
        · rw [z]; exact hel
        · rw [z]; exact hil
      rw [upd_ne (Nat.ne_of_lt hb')]
      exact (hf b hb).1
  done := by
    intro X hP hw hK hc i pins s σ H E I hf st hg
    subst hP hw hK
    obtain ⟨⟨old, he⟩, hit, hne⟩ := st
    obtain ⟨xs, hq, hx⟩ := hg
    obtain ⟨its, rv, p, hz⟩ := I.tuple hq
    obtain ⟨f0, f1, f2, f3, f4, f5⟩ := hf it (by simp)
    have hl := rv.length
    have pT : s.heap.IsTuple a its.toArray := p
    have D := Draws.tuple (prog := X.prog) (w := X.w) (A := X.A.in1) (I.ok.hd hc) it a hai its.toArray
    have en : i = its.toArray.size := by rw [List.size_toArray, ← hl]; exact hx.symm
    refine wpAny_pyNext_enum_endD D he ⟨by rw [← en]; exact hit, pT⟩ fun h' eb => ⟨rfl, I.turned (t' := s.toks) (fun b o hb q => eb b o hb q) f0 f1 f3 f4 f5⟩
  self := fun A i s Q E st h => let ⟨⟨_, he⟩, _⟩ := st; wpAny_pyIter_enum he h
/-- enumerate of a list or of a tuple -/
def iEnumA (K : PySem.W.Frag) (ta : TA) : TI := fun σ H R => ta σ H fun vs H1 => (∃ a xs, vs = [.ref a] ∧ SqL K H1 a xs ∧ R (Ite K a) H1) ∨ ∃ a xs, vs = [.ref a] ∧ SqT K H1 a xs ∧ R (IteT K a) H1
theorem pi_enumA {X : Cx} {e : Expr} {ta : TA} {p pos tpos : Pos} {elts : List Expr} {kk : Nat} (hg : Gl X "enumerate") (hm : X.mg "enumerate" = none) (ha : PA X [e] ta) (hs : starEach [e] X.env = [(false, eval e X.env)] := by rfl) :
    PI X (.Tuple elts kk tpos) (.Call (.Name "enumerate" p) [e] [] pos) (iEnumA X.K ta) := by
  refine ⟨fun pins s σ H R I h => ?_⟩
  refine Call_ (ld_blt I hg hm boot_enumerate (PyProof.Rows.callWith_type1 (thn (ha.run pos pins s σ H _ I h) fun us s1 ⟨vs, H1, I1, r1, q1⟩ => ?_) hs rfl))
  have fp : ∀ b ∈ [s1.heap.objs.size + 1, s1.heap.objs.size], FpOk X pins H1 b := fun b hb => by
    have e' : b = s1.heap.objs.size + 1 ∨ b = s1.heap.objs.size := by simpa using hb
    have hle : s1.heap.objs.size ≤ b := by
      rcases e' with z | z
      · rw [z]; exact Nat.le_add_right _ _
      · rw [z]; exact Nat.le_refl _
    exact I1.fpOk hle (I1.hok.fresh hle)
  rcases q1 with ⟨a, xs, ex, hq, q⟩ | ⟨a, xs, ex, hq, q⟩
  · subst ex
    cases r1 with
    | cons r rr =>
      cases rr
      cases r
      obtain ⟨its, rv, p', hz⟩ := I1.list hq
      refine call_enumerate_list p'.isList fun h' he hit hsz hk => wpAny_pyIter_enum he ?_
      have I2 : Inv X pins σ H1 { s1 with heap := h' } := I1.kept (t' := s1.toks) hk
      exact ⟨s1.heap.objs.size + 1, [s1.heap.objs.size + 1, s1.heap.objs.size], _, _, H1, rfl, I2, turn_enum a (s1.heap.objs.size + 1) s1.heap.objs.size, ⟨⟨.none, he⟩, hit, Nat.succ_ne_self _⟩, fp, q⟩
  · subst ex
    cases r1 with
    | cons r rr =>
      cases rr
      cases r
      obtain ⟨its, rv, p', hz⟩ := I1.tuple hq
      have al : a < s1.heap.objs.size := p'.lt
      refine fl_call_enumerate_tuple p' fun h' he hit hsz hk => wpAny_pyIter_enum he ?_
      have I2 : Inv X pins σ H1 { s1 with heap := h' } := I1.kept (t' := s1.toks) hk
      exact ⟨s1.heap.objs.size + 1, [s1.heap.objs.size + 1, s1.heap.objs.size], _, _, H1, rfl, I2, turn_enumT a (s1.heap.objs.size + 1) s1.heap.objs.size (Nat.ne_of_lt al) (Nat.ne_of_lt (Nat.lt_succ_of_lt al)), ⟨⟨.none, he⟩, hit, Nat.succ_ne_self _⟩, fp, q⟩
theorem walk_enumT {K : PySem.W.Frag} {a : Addr} {xs : List V} : Walk (IteT K a) xs.length (fun H => SqT K H a xs) (YPair (fun i => some (.int (i : Nat))) (fun i => xs[i]?)) := by
  refine ⟨fun i _ hi q => ⟨xs, xs[i], q, by simp [hi]⟩, fun _ q => ⟨xs, q, rfl⟩, fun i H v H' _ q y => ?_⟩
  obtain ⟨T, x, h1, h2, h3, h4⟩ := y
  exact ⟨T, .int (i : Nat), x, h1, h2, h3, rfl, h4 xs q⟩
/-- pairs of a number and an item -/
def enumD : Nat → List D → List D
  | _, [] => []
  | n, d :: ds => .tup [.int (n : Nat), d] :: enumD (n + 1) ds
theorem enumD_get : ∀ {ds : List D} {n i : Nat} {d : D}, ds[i]? = some d → (enumD n ds)[i]? = some (.tup [.int ((n + i : Nat) : Int), d])
  | [], _, _, _, h => by simp at h
  | d :: ds, n, 0, _, h => by simp at h; subst h; rfl
  | d :: ds, n, i + 1, _, h => by
    have := enumD_get (n := n + 1) (i := i) (by simpa using h)
    rw [show n + 1 + i = n + (i + 1) by omega] at this
    simpa [enumD] using this
theorem enumD_length : ∀ (ds : List D) (n : Nat), (enumD n ds).length = ds.length
  | [], _ => rfl
  | _ :: ds, n => by simp [enumD, enumD_length ds]
def itE : List D → Option (List D)
  | [.lst ds] => some (enumD 0 ds)
  | [.tup ds] => some (enumD 0 ds)
  | _ => none
def iEnumF (fs : Nv → R (List Ar)) : Nv → R (List D) := fun E => (fs E).bind fun as E1 => match valsOf as with
  | some ds => R.some (itE ds) E1
  | none => .bad
theorem fi_enum {X : Cx} {g : Gm} {W : WX} {e tg : Expr} {fs : Nv → R (List Ar)} (hK : X.K = g.K) (h : PI X tg e (iEnumA X.K (tG g W (relAs g) fs))) : FI X g W tg e (iEnumF fs) := piImp h fun σ H Q ⟨ρ, G, E, F, st, q⟩ =>
  bindI st q fun as E1 vs F1 H1 st1 s1 r1 q1 => by
    rw [hK]
    cases z : valsOf as with
    | none => simp only [z] at q1; exact q1.elim
    | some ds =>
      simp only [z] at q1
      have rl := valsOf_ok r1 z
      have pairs : ∀ {a : List D} {us : List V}, RepL g F1 a us → ∀ (i : Nat) (x y : V), i < us.length → some (V.int (i : Nat)) = some x → us[i]? = some y → ∃ d e, (enumD 0 a)[i]? = some (.tup [d, e]) ∧ Rep g F1 d x ∧ Rep g F1 e y := fun {a us} ra i x y _ hx hy => by
        cases hx
        obtain ⟨d, h1, r1⟩ := RepL.at (ds := a) (xs := us) (i := i) (x := y) ra hy
        exact ⟨.int (i : Nat), d, by rw [enumD_get h1, Nat.zero_add], rfl, r1⟩
      unfold itE at q1
      split at q1
      · obtain ⟨x, xs, rfl, ⟨p, us, rfl, hu, ru⟩, e0⟩ := rl
        cases (show xs = [] from e0)
        exact .inl ⟨p, us, rfl, .of (st1.sf _ _ hu), q1 _ F1 H1 st1 (Same.refl _) (walks_pair walk_enum (by rw [enumD_length, ru.length]) (fun H F2 a b => .of (b _ _ (a _ _ hu))) fun i x y h1 h2 h3 => pairs ru i x y h1 h2 h3)⟩
      · obtain ⟨x, xs, rfl, ⟨p, us, rfl, hu, ru⟩, e0⟩ := rl
        cases (show xs = [] from e0)
        exact .inr ⟨p, us, rfl, same_t st1.sf hu, q1 _ F1 H1 st1 (Same.refl _) (walks_pair walk_enumT (by rw [enumD_length, ru.length]) (fun H F2 a b => same_t (a.trans b) hu) fun i x y h1 h2 h3 => pairs ru i x y h1 h2 h3)⟩
      · exact q1.elim
end FL

namespace FL
open PySem PySem.Spec PyProof.Rows L2

/-! ## isinstance of one of several classes -/
/-- classes that are built-in -/
def tyNames : List D → Option (List String)
  | [] => some []
  | .ty T :: r => match tyNames r with
    | some l => if tgs.contains T = true then some (T :: l) else none
    | none => none
  | _ => none
def resIsiT (a : Ar) (cs : List Ar) (E : Nv) : R D := match a.get E with
  | none => .bad
  | some x => match tyName x, valsOf cs with
    | some t, some ds => match tyNames ds with
      | some l => if ds.length ≤ sizeLine then .val (.bl (l.any fun T => subTy t T)) E else .bad
      | none => .bad
    | _, _ => .bad
def fIsiT (fx : Nv → R Ar) (fc : Nv → R (List Ar)) : Nv → R D := fun E => (fx E).bind fun a E1 => (fc E1).bind fun cs E2 => resIsiT a cs E2
section
variable {g : Gm} {F H : Hp} {W : WX} {X : Cx} {e : Expr}
theorem tyNames_ok {K : PySem.W.Frag} {t : String} {tv : Value} (ht : ∀ T ∈ tgs, PySem.W.kitOne K tv (.type T) = some (subTy t T)) : ∀ {ds : List D} {vs : List V} {l : List String}, RepL g F ds vs → tyNames ds = some l → ∃ us, Paired ClsV vs us ∧ PySem.W.kitAny K tv us = some (l.any fun T => subTy t T)
  | [], _, _, r, h => by cases (show _ = [] from r); cases h; exact ⟨[], .nil, rfl⟩
  | d :: ds, _, _, r, h => by
    obtain ⟨x, xs, rfl, rx, rt⟩ := r
    cases d with
    | ty T =>
      unfold tyNames at h
      cases z : tyNames ds with
      | none => simp [z] at h
      | some l =>
        simp only [z] at h
        obtain ⟨hT, rfl⟩ := iteSome h
        obtain ⟨us, p, k⟩ := tyNames_ok (K := K) ht rt z
        obtain rfl : x = .ty T := rx
        refine ⟨.type T :: us, .cons (.ty T) p, ?_⟩
        have e := ht T (by simpa using hT)
        refine kitAny_cons e (fun hb => ?_) fun hb => ?_
        · rw [List.any_cons, hb, Bool.false_or]; exact k
        · rw [List.any_cons, hb, Bool.true_or]
    | _ => cases h
theorem fe_isiT {fx : Nv → R Ar} {fc : Nv → R (List Ar)} (hI : ∀ c, InsTy g c) (hK : X.K = g.K) (h : PE X e (tCB (rIsiT X.K) (tCons (tG g W (relA g) fx) (tCons (tTup (tG g W (relAs g) fc)) tNil)))) : FE X g W e (fIsiT fx fc) := peImp h fun σ H Q ⟨ρ, G, E, F, st, q⟩ =>
  bindE st q fun a E1 v F1 H1 st1 s1 r1 q1 => bindE st1 q1 fun cs E2 vs F2 H2 st2 s2 r2 q2 => by
    unfold resIsiT at q2
    cases z1 : a.get E2 with
    | none => simp only [z1] at q2; exact q2.elim
    | some x =>
      simp only [z1] at q2
      cases z2 : tyName x with
      | none => simp only [z2] at q2; exact q2.elim
      | some t =>
        cases z3 : valsOf cs with
        | none => simp only [z2, z3] at q2; exact q2.elim
        | some ds =>
          simp only [z2, z3] at q2
          cases z4 : tyNames ds with
          | none => simp only [z4] at q2; exact q2.elim
          | some l =>
            simp only [z4] at q2
            have rl := valsOf_ok r2 z3
            by_cases hl : ds.length ≤ sizeLine
            · rw [if_pos hl] at q2
              refine ⟨by rw [← rl.length]; exact hl, fun tp hp => ?_⟩
              have st3 := st2.grow hp (.tup vs)
              obtain ⟨tv, ty3, tm⟩ := tyx_kit (g := g) hI st3.sf (ar_ok st3 (r1.mono (s2.trans (Same.new (st2.fF hp)))) z1) z2
              obtain ⟨us, p, k⟩ := tyNames_ok (K := X.K) (by rw [hK]; exact tm) rl z4
              exact ⟨v, tp, vs, tv, us, _, rfl, upd_same, p, by rw [hK]; exact ty3, k, q2 _ _ _ st3 (Same.new (st2.fF hp)) rfl⟩
            · rw [if_neg hl] at q2; exact q2.elim
end
theorem units65 {k : Nat} {A : Around} (r : Room k A) : A.units + 65 < cLine := by have := r.un; omega
/-- a def that is never called deeper -/
def fn0 : Fn := fun _ => .bad
theorem fn0_ok {P : Program} {w : World} {K : PySem.W.Frag} {mg : Str → Option Value} {base : Heap} {g : Gm} {k : Nat} {f : Addr} {fd : FuncData} {ps : List Str} (n : Nat) (hn : n = ps.length) : FnOk P w K mg base (L2.CX P w) k f fd ps (spF g n fn0) :=
  ⟨fun vs H Q E h => by rw [h.1, hn], fun A outer s H args us vs Q E hr e0 hb r h => by
    obtain ⟨_, ρ, G, as, F, st, q⟩ := h
    exact q.elim⟩
/-- a def of the text, by the facts of the written part -/
theorem fun_at {K : PySem.W.Frag} {x qual : Str} {st : Stmt} {ps : List Str} {f : Addr} {oc : Value} {od an : Option Addr} {osl : Array (Option Value)} {kV doc pm cdv ct : Value}
    (l : K.lookup f = some ⟨oc, od, .func (PySem.W.fnOf x qual (defArgs st) (defBody st) (defScope st) .none kV doc pm an cdv ct), osl⟩) (c : PySem.W.codeIn K cdv qual = true) (k : PySem.W.keepIn K (.ref f) = true)
    (h : ∀ (kV doc pm : Value) (an : Option Addr) (cdv ct : Value) (us : List Value), us.length = ps.length → bindArgs (PySem.W.fnOf x qual (defArgs st) (defBody st) (defScope st) .none kV doc pm an cdv ct) ⟨us, []⟩ = pure (ps.zip us)) :
    ∃ fd, Fun K x qual st f fd ∧ Binds K fd ps [] := ⟨_, fun_mk l c k, (fun_mk l c k).binds h⟩
end FL

namespace FL
open PySem PySem.Spec PyProof.Rows L2

/-! ## what a function on data does -/
def wp {α : Type} : R α → (α → Nv → Prop) → Prop
  | .val a E, Q => Q a E
  | _, _ => False
def wpF : FR → (D → List Sl → Prop) → Prop
  | .val d bs, Q => Q d bs
  | _, _ => False
def wpN : FR → (D → List Sl → Prop) → Prop
  | .new d bs, Q => Q d bs
  | _, _ => False
section
variable {α β : Type} {a : α} {E : Nv} {Q : α → Nv → Prop}
theorem wp_val : wp (.val a E) Q = Q a E := rfl
theorem wp_bad : wp (.bad : R α) Q = False := rfl
theorem wp_bind {r : R β} {k : β → Nv → R α} : wp (r.bind k) Q = wp r fun b E1 => wp (k b E1) Q := by cases r <;> rfl
theorem wp_nox {r : R α} : wp r.nox Q = wp r Q := by cases r <;> rfl
theorem wp_somes {a : α} : wp (R.some (some a) E) Q = Q a E := rfl
theorem wp_some {o : Option α} : wp (R.some o E) Q = ∃ a, o = some a ∧ Q a E := by
  cases o with
  | none => exact propext ⟨fun h => h.elim, fun ⟨_, h, _⟩ => nomatch h⟩
  | some a => exact propext ⟨fun h => ⟨a, rfl, h⟩, fun ⟨_, h, q⟩ => by cases h; exact q⟩
theorem wp_imp {r : R α} {Q' : α → Nv → Prop} (h : wp r Q) (i : ∀ a E, Q a E → Q' a E) : wp r Q' := by
  cases r with
  | val a E => exact i a E h
  | exc _ _ _ => exact h
  | bad => exact h
theorem wpF_imp {r : FR} {Q Q' : D → List Sl → Prop} (h : wpF r Q) (i : ∀ a E, Q a E → Q' a E) : wpF r Q' := by
  cases r with
  | val a E => exact i a E h
  | _ => exact h
theorem wp_ite {c : Prop} [Decidable c] {r s : R α} : wp (if c then r else s) Q = if c then wp r Q else wp s Q := by split <;> rfl
end
section
variable {E : Nv} {QD : D → Nv → Prop} {QB : Bool → Nv → Prop} {QA : Ar → Nv → Prop} {QL : List Ar → Nv → Prop} {QS : Fl → Nv → Prop} {QI : List D → Nv → Prop} {QP : Option Int → Nv → Prop}
  {f h : Nv → R D} {fa fb fc : Nv → R Ar} {t u : Nv → R Bool} {s s2 : Nv → R Fl} {fs : List (Nv → R Ar)} {fl : Nv → R (List Ar)} {i j : Nat} {d : D} {o o' : D → D → Option D}
theorem wp_fC : wp (fC d E) QD = QD d E := rfl
theorem wp_fV : wp (fV f E) QA = wp (f E) fun d E1 => QA (.v d) E1 := by unfold fV; rw [wp_bind]; rfl
theorem wp_fOp2 : wp (fOp2 o fa fb E) QD = wp (fa E) fun a E1 => wp (fb E1) fun b E2 => wp (res2 o E2 a b) QD := by unfold fOp2; simp only [wp_bind]
theorem wp_res2 {a b : Ar} {d e : D} (h1 : a.get E = some d) (h2 : b.get E = some e) : wp (res2 o E a b) QD = ∃ z, o d e = some z ∧ QD z E := by unfold res2; simp only [h1, h2]; exact wp_some
theorem wp_fAs0 : wp (fAs [] E) QL = QL [] E := rfl
theorem wp_fAs1 : wp (fAs (fa :: fs) E) QL = wp (fa E) fun a E1 => wp (fAs fs E1) fun as E2 => QL (a :: as) E2 := by rw [show fAs (fa :: fs) E = (fa E).bind fun a E1 => (fAs fs E1).bind fun as E2 => .val (a :: as) E2 from rfl]; simp only [wp_bind, wp_val]
theorem wp_fOpL {o : List D → Option D} : wp (fOpL o fl E) QD = wp (fl E) fun as E1 => wp (resL o E1 as) QD := by unfold fOpL; simp only [wp_bind]
theorem wp_fOpV {o : List D → Option D} : wp (fOpV o fl E) QD = wp (fl E) fun as E1 => wp (resV o E1 as) QD := by unfold fOpV; simp only [wp_bind]
theorem wp_fTest : wp (fTest f E) QB = wp (f E) fun d E1 => ∃ b, asB d = some b ∧ QB b E1 := by unfold fTest; simp only [wp_bind, wp_some]
theorem wp_fChain : wp (fChain o o' fa fb fc E) QD = wp (fa E) fun a E1 => wp (fb E1) fun b E2 => wp (res2 o E2 a b) fun z E3 => (asB z = some true ∧ wp (fc E3) fun c E4 => wp (res2 o' E4 b c) QD) ∨ (asB z = some false ∧ QD (.bl false) E3) := by
  unfold fChain
  simp only [wp_bind]
  congr; funext a E1; congr; funext b E2; congr; funext z E3
  cases h : asB z with
  | none => simp [wp]
  | some b => cases b <;> simp [wp_bind, wp_val]
theorem wp_fAnd : wp (fAnd f h E) QD = wp (f E) fun d E1 => (asB d = some true ∧ wp (h E1) QD) ∨ (asB d = some false ∧ QD (.bl false) E1) := by
  unfold fAnd
  simp only [wp_bind]
  congr; funext z E3
  cases h : asB z with
  | none => simp [wp]
  | some b => cases b <;> simp [wp]
theorem wp_fOr : wp (fOr f h E) QD = wp (f E) fun d E1 => (asB d = some false ∧ wp (h E1) QD) ∨ (asB d = some true ∧ QD (.bl true) E1) := by
  unfold fOr
  simp only [wp_bind]
  congr; funext z E3
  cases h : asB z with
  | none => simp [wp]
  | some b => cases b <;> simp [wp]
theorem wp_fNot : wp (fNot f E) QD = wp (f E) fun d E1 => ∃ b, asB d = some b ∧ QD (.bl (!b)) E1 := by
  unfold fNot
  simp only [wp_bind]
  congr; funext z E3
  cases h : asB z with
  | none => simp [wp]
  | some b => simp [wp]
theorem wp_tAndF : wp (tAndF t u E) QB = wp (t E) fun b E1 => if b = true then wp (u E1) QB else QB false E1 := by unfold tAndF; simp only [wp_bind, wp_ite, wp_val]
theorem wp_tOrF : wp (tOrF t u E) QB = wp (t E) fun b E1 => if b = true then QB true E1 else wp (u E1) QB := by unfold tOrF; simp only [wp_bind, wp_ite, wp_val]
theorem wp_tNotF : wp (tNotF t E) QB = wp (t E) fun b E1 => QB (!b) E1 := by unfold tNotF; simp only [wp_bind, wp_val]
theorem wp_fIf {α : Type} {Q : α → Nv → Prop} {f g : Nv → R α} : wp (fIf t f g E) Q = wp (t E) fun b E1 => if b = true then wp (f E1) Q else wp (g E1) Q := by unfold fIf; simp only [wp_bind, wp_ite]
/-! statements -/
theorem wp_fNx : wp (fNx E) QS = QS .nx E := rfl
theorem wp_fBad {α : Type} {Q : α → Nv → Prop} : wp (fBad E) Q = False := rfl
theorem wp_fSeq : wp (fSeq s s2 E) QS = wp (s E) fun fl E1 => match fl with
    | .nx => wp (s2 E1) QS
    | fl => QS fl E1 := by
  unfold fSeq
  cases s E with
  | val fl E1 => cases fl <;> rfl
  | _ => rfl
theorem wp_fDrop : wp (fDrop f E) QS = wp (f E) fun _ E1 => QS .nx E1 := by unfold fDrop; simp only [wp_bind, wp_val]
theorem wp_fRet : wp (fRet f E) QS = wp (f E) fun d E1 => QS (.rt d) E1 := by unfold fRet; simp only [wp_bind, wp_val]
theorem wp_fRetN : wp (fRetN f E) QS = wp (f E) fun d E1 => QS (.rn d) E1 := by unfold fRetN; simp only [wp_bind, wp_val]
theorem wp_fRet0 : wp (fRet0 E) QS = QS (.rt .non) E := rfl
theorem wp_fSet : wp (fSet i f E) QS = wp (f E) fun d E1 => QS .nx (E1.set i (.fz d)) := by unfold fSet; simp only [wp_bind, wp_val]
theorem wp_fSetN : wp (fSetN i f E) QS = wp (f E) fun d E1 => QS .nx (E1.set i (.own d)) := by unfold fSetN; simp only [wp_bind, wp_val]
theorem wp_fAsg {b : Bd} : wp (fAsg f b E) QS = wp (f E) fun d E1 => ∃ E2, b d E1 = some E2 ∧ QS .nx E2 := by
  unfold fAsg
  simp only [wp_bind]
  congr; funext d E1
  cases b d E1 <;> simp [wp]
theorem wp_fPar : wp (fPar i j f h E) QS = wp (f E) fun d E1 => wp (h E1) fun e E2 => QS .nx ((E2.set i (.fz d)).set j (.fz e)) := by unfold fPar; simp only [wp_bind, wp_val]
theorem wp_fParNE : wp (fParNE i j f h E) QS = wp (f E) fun d E1 => wp (h E1) fun e E2 => QS .nx ((E2.set i (.own d)).set j (.fz e)) := by unfold fParNE; simp only [wp_bind, wp_val]
theorem wp_fParEN : wp (fParEN i j f h E) QS = wp (f E) fun d E1 => wp (h E1) fun e E2 => QS .nx ((E2.set i (.fz d)).set j (.own e)) := by unfold fParEN; simp only [wp_bind, wp_val]
theorem wp_fSetIx : wp (fSetIx i f h E) QS = wp (h E) fun d E1 => wp (fPk i E1) fun _ E2 => wp (f E2) fun k E3 => wp (setIx i d k E3) QS := by unfold fSetIx; simp only [wp_bind]
theorem wp_fSetFld {n : Str} : wp (fSetFld i n f E) QS = wp (f E) fun d E1 => wp (fPk i E1) fun _ E2 => wp (setFld i n d E2) QS := by unfold fSetFld; simp only [wp_bind]
theorem wp_fMt {m : D → List D → Option (D × D)} : wp (fMt i m fl E) QD = wp (fPk i E) fun _ E1 => ∃ c, Ar.get E1 (.pk i) = some c ∧ isLst c = true ∧ wp (fl E1) fun as E2 => wp (resMt i m as E2) QD := by
  unfold fMt
  simp only [wp_bind]
  congr; funext _ E1
  cases h : Ar.get E1 (.pk i) with
  | none => simp [wp]
  | some c =>
    simp only
    by_cases hc : isLst c = true
    · simp [hc, wp_bind]
    · simp [hc, wp]
/-! walks -/
theorem wp_iAnyF : wp (iAnyF f E) QI = wp (f E) fun d E1 => wp (R.some (itAny d) E1) QI := by unfold iAnyF; simp only [wp_bind]
theorem wp_iRng : wp (iRng fl E) QI = wp (fl E) fun as E1 => ∃ ds, valsOf as = some ds ∧ wp (R.some (itR ds) E1) QI := by
  unfold iRng; simp only [wp_bind]; congr; funext as E1; cases valsOf as <;> simp [wp]
theorem wp_iZip : wp (iZip fl E) QI = wp (fl E) fun as E1 => ∃ ds, valsOf as = some ds ∧ wp (R.some (itZ ds) E1) QI := by
  unfold iZip; simp only [wp_bind]; congr; funext as E1; cases valsOf as <;> simp [wp]
theorem wp_iEnumF : wp (iEnumF fl E) QI = wp (fl E) fun as E1 => ∃ ds, valsOf as = some ds ∧ wp (R.some (itE ds) E1) QI := by
  unfold iEnumF; simp only [wp_bind]; congr; funext as E1; cases valsOf as <;> simp [wp]
theorem wp_fFor {fi : Nv → R (List D)} {b : Bd} : wp (fFor fi b s E) QS = wp (fi E) fun ds E1 => wp (forL b s ds E1) QS := by unfold fFor; simp only [wp_bind]
theorem wp_fLc {fi : Nv → R (List D)} {b : Bd} {vs : List Nat} : wp (fLc fi b t f vs E) QD = wp (fi E) fun ds E1 => wp (lcL b t f vs ds [] (wipeE E1 vs)) fun xs E2 => QD (.lst xs) (restoreE E1 E2 vs) := by unfold fLc; simp only [wp_bind, wp_val]
theorem wp_fCall {fn : Fn} : wp (fCall fn fl E) QD = wp (fl E) fun as E1 => wp (resC fn as E1) QD := by unfold fCall; simp only [wp_bind]
theorem wp_fCallN {fn : Fn} : wp (fCallN fn fl E) QD = wp (fl E) fun as E1 => wp (resCN fn as E1) QD := by unfold fCallN; simp only [wp_bind]
theorem wp_resC {fn : Fn} {ars : List Ar} {as : List Sl} (hl : lend E 0 ars = some as) (ho : once ars = true) : wp (resC fn ars E) QD = wpF (fn as) fun d bs => shape as bs = true ∧ QD d (unlend ars bs E) := by
  unfold resC
  simp only [hl, ho]
  cases fn as with
  | val d bs => simp only [wpF]; by_cases h : shape as bs = true <;> simp [h, wp]
  | new d bs => simp [wpF, wp]
  | exc c fs bs => simp only [wpF]; by_cases h : shape as bs = true <;> simp [h, wp]
  | bad => simp [wpF, wp]
theorem wp_resCN {fn : Fn} {ars : List Ar} {as : List Sl} (hl : lend E 0 ars = some as) (ho : once ars = true) : wp (resCN fn ars E) QD = wpN (fn as) fun d bs => shape as bs = true ∧ QD d (unlend ars bs E) := by
  unfold resCN
  simp only [hl, ho]
  cases fn as with
  | new d bs => simp only [wpN]; by_cases h : shape as bs = true <;> simp [h, wp]
  | val d bs => simp [wpN, wp]
  | exc c fs bs => simp only [wpN]; by_cases h : shape as bs = true <;> simp [h, wp]
  | bad => simp [wpN, wp]
theorem wp_fFld {n : Str} : wp (fFld n fa E) QD = wp (fa E) fun a E1 => wp (resFld n a E1) QD := by unfold fFld; simp only [wp_bind]
theorem wp_fSl {p q : Nv → R (Option Int)} : wp (fSl fa p q E) QD = wp (fa E) fun a E1 => wp (p E1) fun lo E2 => wp (q E2) fun hi E3 => wp (resSl lo hi a E3) QD := by unfold fSl; simp only [wp_bind]
theorem wp_pNone : wp (pNone E) QP = QP none E := rfl
theorem wp_pSome : wp (pSome f E) QP = wp (f E) fun d E1 => ∃ i, asI d = some i ∧ QP (some i) E1 := by
  unfold pSome; simp only [wp_bind]; congr; funext d E1; cases asI d <;> simp [wp]
theorem wp_runF {N : Nat} {as : List Sl} {Q : D → List Sl → Prop} (h : wp (s (as ++ List.replicate (N - as.length) .no)) fun fl E => match fl with
    | .nx => ∃ b, backs as E = some b ∧ Q .non b
    | .rt d => ∃ b, backs as E = some b ∧ Q d b
    | _ => False) : wpF (runF N s as) Q := by
  unfold runF
  revert h
  cases s (as ++ List.replicate (N - as.length) .no) with
  | val fl E =>
    cases fl with
    | nx => rintro ⟨b, h1, h2⟩; simp only [h1]; exact h2
    | rt d => rintro ⟨b, h1, h2⟩; simp only [h1]; exact h2
    | _ => exact fun h => h.elim
  | _ => exact fun h => h.elim
theorem wpN_runF {N : Nat} {as : List Sl} {Q : D → List Sl → Prop} (h : wp (s (as ++ List.replicate (N - as.length) .no)) fun fl E => match fl with
    | .rn d => ∃ b, backs as E = some b ∧ Q d b
    | _ => False) : wpN (runF N s as) Q := by
  unfold runF
  revert h
  cases s (as ++ List.replicate (N - as.length) .no) with
  | val fl E =>
    cases fl with
    | rn d => rintro ⟨b, h1, h2⟩; simp only [h1]; exact h2
    | _ => exact fun h => h.elim
  | _ => exact fun h => h.elim
/-- a loop by an invariant: I before each turn, by what is left -/
theorem wp_forL {b : Bd} {ds : List D} (I : List D → Nv → Prop) (h0 : I ds E) (turn : ∀ d r E, I (d :: r) E → ∃ E1, b d E = some E1 ∧ wp (s E1) fun fl E2 => match fl with
    | .nx => I r E2
    | .ct => I r E2
    | .bk => QS .nx E2
    | fl => QS fl E2) (fin : ∀ E, I [] E → QS .nx E) : wp (forL b s ds E) QS := by
  induction ds generalizing E with
  | nil => exact fin E h0
  | cons d r ih =>
    obtain ⟨E1, e1, w⟩ := turn d r E h0
    unfold forL
    simp only [e1]
    revert w
    cases s E1 with
    | val fl E2 =>
      cases fl with
      | nx => exact fun w => ih w
      | ct => exact fun w => ih w
      | bk => exact fun w => w
      | rt x => exact fun w => w
      | rn x => exact fun w => w
    | _ => exact fun w => w.elim
theorem wp_lcL {b : Bd} {ds acc : List D} {vs : List Nat} {Q : List D → Nv → Prop} (I : List D → List D → Nv → Prop) (h0 : I ds acc E) (turn : ∀ d r acc E, I (d :: r) acc E → ∃ E1, b d E = some E1 ∧ wp (t E1) fun k E2 => if k = true then wp (f E2) fun x E3 => acc.length < sizeLine ∧ I r (acc ++ [x]) (wipeE E3 vs) else I r acc (wipeE E2 vs))
    (fin : ∀ acc E, I [] acc E → Q acc E) : wp (lcL b t f vs ds acc E) Q := by
  induction ds generalizing E acc with
  | nil => exact fin acc E h0
  | cons d r ih =>
    obtain ⟨E1, e1, w⟩ := turn d r acc E h0
    unfold lcL
    simp only [e1, wp_bind, wp_nox]
    refine wp_imp w fun k E2 w2 => ?_
    by_cases hk : k = true
    · rw [if_pos hk] at w2 ⊢
      rw [wp_bind, wp_nox]
      refine wp_imp w2 fun x E3 w3 => ?_
      rw [if_pos w3.1]
      exact ih w3.2
    · rw [if_neg hk] at w2 ⊢
      exact ih w2
end
end FL

namespace FL
open PySem PySem.Spec PyProof.Rows L2
/-! ## running by simp: ends that stay shut -/
def seqQ (t : Nv → R Fl) (Q : Fl → Nv → Prop) : Fl → Nv → Prop := fun fl E1 => match fl with
  | .nx => wp (t E1) Q
  | fl => Q fl E1
def endQ (as : List Sl) (Q : D → List Sl → Prop) : Fl → Nv → Prop := fun fl E => match fl with
  | .nx => ∃ b, backs as E = some b ∧ Q .non b
  | .rt d => ∃ b, backs as E = some b ∧ Q d b
  | _ => False
def endN (as : List Sl) (Q : D → List Sl → Prop) : Fl → Nv → Prop := fun fl E => match fl with
  | .rn d => ∃ b, backs as E = some b ∧ Q d b
  | _ => False
def loopQ (I : List D → Nv → Prop) (r : List D) (Q : Fl → Nv → Prop) : Fl → Nv → Prop := fun fl E2 => match fl with
  | .nx => I r E2
  | .ct => I r E2
  | .bk => Q .nx E2
  | fl => Q fl E2
section
variable {α : Type} {s t : Nv → R Fl} {Q : Fl → Nv → Prop} {E : Nv} {as : List Sl} {QF : D → List Sl → Prop} {d : D} {I : List D → Nv → Prop} {r : List D}
theorem wp_seq (h : wp (s E) (seqQ t Q)) : wp (fSeq s t E) Q := by rw [wp_fSeq]; exact h
theorem seqQ_nx (h : wp (t E) Q) : seqQ t Q .nx E := h
theorem seqQ_rt (h : Q (.rt d) E) : seqQ t Q (.rt d) E := h
theorem seqQ_nx' : seqQ t Q .nx E = wp (t E) Q := rfl
theorem seqQ_rt' : seqQ t Q (.rt d) E = Q (.rt d) E := rfl
theorem seqQ_rn' : seqQ t Q (.rn d) E = Q (.rn d) E := rfl
theorem seqQ_bk' : seqQ t Q .bk E = Q .bk E := rfl
theorem seqQ_ct' : seqQ t Q .ct E = Q .ct E := rfl
theorem endQ_rt {b : List Sl} (h : backs as E = some b) (q : QF d b) : endQ as QF (.rt d) E := ⟨b, h, q⟩
theorem endQ_nx {b : List Sl} (h : backs as E = some b) (q : QF .non b) : endQ as QF .nx E := ⟨b, h, q⟩
theorem endQ_rt' : endQ as QF (.rt d) E = ∃ b, backs as E = some b ∧ QF d b := rfl
theorem endQ_nx' : endQ as QF .nx E = ∃ b, backs as E = some b ∧ QF .non b := rfl
theorem endN_rn' : endN as QF (.rn d) E = ∃ b, backs as E = some b ∧ QF d b := rfl
theorem loopQ_nx' : loopQ I r Q .nx E = I r E := rfl
theorem loopQ_ct' : loopQ I r Q .ct E = I r E := rfl
theorem loopQ_bk' : loopQ I r Q .bk E = Q .nx E := rfl
theorem loopQ_rt' : loopQ I r Q (.rt d) E = Q (.rt d) E := rfl
theorem run_wp {N : Nat} (h : wp (s (as ++ List.replicate (N - as.length) .no)) (endQ as QF)) : wpF (runF N s as) QF := wp_runF h
theorem run_wpN {N : Nat} (h : wp (s (as ++ List.replicate (N - as.length) .no)) (endN as QF)) : wpN (runF N s as) QF := wpN_runF h
theorem for_wp {b : Bd} {ds : List D} (I : List D → Nv → Prop) (h0 : I ds E) (turn : ∀ d r E, I (d :: r) E → ∃ E1, b d E = some E1 ∧ wp (s E1) (loopQ I r Q)) (fin : ∀ E, I [] E → Q .nx E) : wp (forL b s ds E) Q := wp_forL I h0 turn fin
theorem wp_someIte {o : α} {c : Prop} [Decidable c] {Q : α → Nv → Prop} : wp (R.some (if c then some o else none) E) Q = (c ∧ Q o E) := by
  by_cases h : c
  · simp [h, R.some, wp]
  · simp [h, R.some, wp]
theorem atI_nat' {xs : List α} (n : Nat) : atI xs (n : Int) = xs[n]? := by
  unfold atI ixN
  rw [if_pos (by omega)]
  by_cases h : n < xs.length
  · rw [if_pos (by omega)]
    rfl
  · rw [if_neg (by omega), List.getElem?_eq_none (by omega)]
    rfl
theorem atI_0 {xs : List α} : atI xs 0 = xs[0]? := atI_nat' 0
theorem atI_1 {xs : List α} : atI xs 1 = xs[1]? := atI_nat' 1
theorem atI_2 {xs : List α} : atI xs 2 = xs[2]? := atI_nat' 2
theorem atI_3 {xs : List α} : atI xs 3 = xs[3]? := atI_nat' 3
theorem atI_4 {xs : List α} : atI xs 4 = xs[4]? := atI_nat' 4
theorem atI_pos {xs : List α} {i : Int} (h : 0 ≤ i) : atI xs i = xs[i.toNat]? := by
  obtain ⟨n, rfl⟩ := Int.eq_ofNat_of_zero_le h
  exact atI_nat' n
theorem ixN_pos {n : Nat} {i : Int} (h : 0 ≤ i) (h2 : i < n) : ixN n i = some i.toNat := by unfold ixN; rw [if_pos h, if_pos h2]
theorem ixN_0 {n : Nat} : ixN (n + 1) 0 = some 0 := ixN_pos (by omega) (by omega)
theorem ixN_1 {n : Nat} : ixN (n + 2) 1 = some 1 := ixN_pos (by omega) (by omega)
theorem ixN_2 {n : Nat} : ixN (n + 3) 2 = some 2 := ixN_pos (by omega) (by omega)
theorem ixN_3 {n : Nat} : ixN (n + 4) 3 = some 3 := ixN_pos (by omega) (by omega)
theorem ixN_4 {n : Nat} : ixN (n + 5) 4 = some 4 := ixN_pos (by omega) (by omega)
/-! equality of ints -/
theorem dEq_int {i j : Int} : dEq (.int i) (.int j) = some (i == j) := by
  show (if SeqAt.shaped (PyData.int i) = true ∧ SeqAt.shaped (PyData.int j) = true then some (PyData.eqv (PyData.int i) (PyData.int j)) else none) = _
  rw [if_pos ⟨rfl, rfl⟩]
  rfl
theorem oEq_int {i j : Int} : oEq (.int i) (.int j) = some (.bl (i == j)) := by unfold oEq; rw [dEq_int]; rfl
theorem oNe_int {i j : Int} : oNe (.int i) (.int j) = some (.bl (!(i == j))) := by unfold oNe; rw [dEq_int]; rfl
theorem dEq_bl {i j : Bool} : dEq (.bl i) (.bl j) = some (i == j) := by
  show (if SeqAt.shaped (PyData.bool i) = true ∧ SeqAt.shaped (PyData.bool j) = true then some (PyData.eqv (PyData.bool i) (PyData.bool j)) else none) = _
  rw [if_pos ⟨rfl, rfl⟩]
  rfl
theorem oEq_bl {i j : Bool} : oEq (.bl i) (.bl j) = some (.bl (i == j)) := by unfold oEq; rw [dEq_bl]; rfl
theorem oNe_bl {i j : Bool} : oNe (.bl i) (.bl j) = some (.bl (!(i == j))) := by unfold oNe; rw [dEq_bl]; rfl
theorem ex_some {α : Type} {a : α} {p : α → Prop} : (∃ b, some a = some b ∧ p b) = p a := propext ⟨fun ⟨_, h, q⟩ => by cases h; exact q, fun h => ⟨a, rfl, h⟩⟩
theorem sl16 {n : Nat} (h : n ≤ 1000000) : n ≤ sizeLine := Nat.le_trans h (by rw [sizeLine_eq]; decide)
end
end FL

namespace FL
open PySem PySem.Spec PyProof.Rows L2

/-! ## a run by simp: the outcome alone is looked at, what comes behind waits (a type that hangs on it keeps simp away) -/
abbrev Tg {b : Type} (_ : b) : Type := Unit
def run {α : Type} (Q : α → Nv → Prop) (_ : Tg Q) (r : R α) : Prop := wp r Q
def runC (Q : D → List Sl → Prop) (_ : Tg Q) (r : FR) : Prop := wpF r Q
def runN (Q : D → List Sl → Prop) (_ : Tg Q) (r : FR) : Prop := wpN r Q
def seqK (s : Nv → R Fl) (Q : Fl → Nv → Prop) (_ : Tg (s, Q)) (fl : Fl) (E : Nv) : Prop := seqQ s Q fl E
def endK (as : List Sl) (Q : D → List Sl → Prop) (_ : Tg (as, Q)) (fl : Fl) (E : Nv) : Prop := endQ as Q fl E
def endM (as : List Sl) (Q : D → List Sl → Prop) (_ : Tg (as, Q)) (fl : Fl) (E : Nv) : Prop := endN as Q fl E
def bakK (as : List Sl) (Q : D → List Sl → Prop) (d : D) (_ : Tg (as, Q, d)) (b : Option (List Sl)) : Prop := ∃ x, b = some x ∧ Q d x
def loopK (I : List D → Nv → Prop) (r : List D) (Q : Fl → Nv → Prop) (_ : Tg (I, r, Q)) (fl : Fl) (E : Nv) : Prop := loopQ I r Q fl E
def ifK {α : Type} (f g : Nv → R α) (Q : α → Nv → Prop) (_ : Tg (f, g, Q)) (b : Bool) (E : Nv) : Prop := if b = true then wp (f E) Q else wp (g E) Q
def andK (h : Nv → R D) (Q : D → Nv → Prop) (_ : Tg (h, Q)) (d : D) (E : Nv) : Prop := (asB d = some true ∧ wp (h E) Q) ∨ (asB d = some false ∧ Q (.bl false) E)
def orK (h : Nv → R D) (Q : D → Nv → Prop) (_ : Tg (h, Q)) (d : D) (E : Nv) : Prop := (asB d = some false ∧ wp (h E) Q) ∨ (asB d = some true ∧ Q (.bl true) E)
def tandK (u : Nv → R Bool) (Q : Bool → Nv → Prop) (_ : Tg (u, Q)) (b : Bool) (E : Nv) : Prop := if b = true then wp (u E) Q else Q false E
def torK (u : Nv → R Bool) (Q : Bool → Nv → Prop) (_ : Tg (u, Q)) (b : Bool) (E : Nv) : Prop := if b = true then Q true E else wp (u E) Q
def chK (o' : D → D → Option D) (fc : Nv → R Ar) (b : Ar) (Q : D → Nv → Prop) (_ : Tg (o', fc, b, Q)) (z : D) (E3 : Nv) : Prop := (asB z = some true ∧ wp (fc E3) fun c E4 => wp (res2 o' E4 b c) Q) ∨ (asB z = some false ∧ Q (.bl false) E3)
def forK (b : Bd) (s : Nv → R Fl) (Q : Fl → Nv → Prop) (_ : Tg (b, s, Q)) (ds : List D) (E : Nv) : Prop := wp (forL b s ds E) Q
def lcK (b : Bd) (t : Nv → R Bool) (f : Nv → R D) (vs : List Nat) (Q : D → Nv → Prop) (_ : Tg (b, t, f, vs, Q)) (ds : List D) (E : Nv) : Prop := wp (lcL b t f vs ds [] (wipeE E vs)) fun xs E2 => Q (.lst xs) (restoreE E E2 vs)
def calK (fn : Fn) (ars : List Ar) (Q : D → Nv → Prop) (_ : Tg (fn, ars, Q)) (E : Nv) (as : Option (List Sl)) : Prop := match as with
  | some as => once ars = true ∧ wpF (fn as) fun d bs => shape as bs = true ∧ Q d (unlend ars bs E)
  | none => False
def calM (fn : Fn) (ars : List Ar) (Q : D → Nv → Prop) (_ : Tg (fn, ars, Q)) (E : Nv) (as : Option (List Sl)) : Prop := match as with
  | some as => once ars = true ∧ wpN (fn as) fun d bs => shape as bs = true ∧ Q d (unlend ars bs E)
  | none => False
def retK (as : List Sl) (ars : List Ar) (Q : D → Nv → Prop) (E : Nv) (_ : Tg (as, ars, Q, E)) (d : D) (bs : List Sl) : Prop := shape as bs = true ∧ Q d (unlend ars bs E)
def backK (Q : D → Nv → Prop) (_ : Tg Q) (d : D) (E : Nv) : Prop := Q d E
def asgK (b : Bd) (Q : Fl → Nv → Prop) (_ : Tg (b, Q)) (d : D) (E : Nv) : Prop := ∃ E2, b d E = some E2 ∧ Q .nx E2
def someK (Q : Nv → Prop) (_ : Tg Q) (o : Option Nv) : Prop := ∃ E, o = some E ∧ Q E
def mtK (m : D → List D → Option (D × D)) (i : Nat) (fl : Nv → R (List Ar)) (Q : D → Nv → Prop) (_ : Tg (m, fl, Q)) (c : Option D) (E : Nv) : Prop := ∃ d, c = some d ∧ isLst d = true ∧ wp (fl E) fun as E2 => wp (resMt i m as E2) Q
def optK {α : Type} (Q : α → Prop) (_ : Tg Q) (o : Option α) : Prop := ∃ a, o = some a ∧ Q a
/-! what is looked at -/
def pkV (s : Option Sl) (i : Nat) (E : Nv) : R Ar := match s with
  | some s => match s.cont with
    | some _ => .val (.pk i) E
    | none => .bad
  | none => .bad
def vrV (s : Option Sl) (i : Nat) (E : Nv) : R D := match s with
  | some (.fz d) => .val d E
  | some (.own d) => .val d (E.set i (.fz d))
  | _ => .bad
def slC (s : Option Sl) : Option D := match s with
  | some s => s.cont
  | none => none
def slCell : Option Sl → Option D
  | some s => s.cell
  | none => none
def r2 (o : D → D → Option D) (a b : Option D) : Option D := match a, b with
  | some d, some e => o d e
  | _, _ => none
def rL (o : List D → Option D) (a : Option (List D)) : Option D := match a with
  | some ds => o ds
  | none => none
def cons2 (a : Option D) (b : Option (List D)) : Option (List D) := match a, b with
  | some d, some ds => some (d :: ds)
  | _, _ => none
def rFld (n : Str) (a : Option D) : Option D := match a with
  | some (.ins _ ns ds) => lookD n ns ds
  | _ => none
def rSl (lo hi : Option Int) (a : Option D) : Option D := match a with
  | some d => oSl d lo hi
  | none => none
def rIx (s : Option Sl) (d k : D) : Option Sl := match s, k with
  | some s, .int i => match s.cell with
    | some (.lst ds) => match ixN ds.length i with
      | some m => some (s.put (.lst (ds.set m d)))
      | none => none
    | _ => none
  | _, _ => none
def rMt (o : D → List D → Option (D × D)) (s : Option Sl) (ds : Option (List D)) : Option (D × D) := match s, ds with
  | some s, some ds => match s.cell with
    | some c => o c ds
    | none => none
  | _, _ => none
def putO (s : Option Sl) (d : D) : Sl := match s with
  | some s => s.put d
  | none => .no
def rIsT (x : Option D) (cs : Option (List D)) : Option D := match x with
  | none => none
  | some x => match tyName x, cs with
    | some t, some ds => match tyNames ds with
      | some l => if ds.length ≤ sizeLine then some (.bl (l.any fun T => subTy t T)) else none
      | none => none
    | _, _ => none
def sCons2 (a : Option Sl) (b : Option (List Sl)) : Option (List Sl) := match a, b with
  | some a, some ds => some (a :: ds)
  | _, _ => none
def lendS1 (m : Nat) : Option Sl → Option Sl
  | some (.fz d) => some (.fz d)
  | some (.own d) => some (.bor m d)
  | some (.bor _ d) => some (.bor m d)
  | _ => none
def bCons (a : Sl) (b : Option (List Sl)) : Option (List Sl) := match b with
  | some b => some (a :: b)
  | none => none
section
variable {E : Nv} {QD : D → Nv → Prop} {QB : Bool → Nv → Prop} {QA : Ar → Nv → Prop} {QL : List Ar → Nv → Prop} {QS : Fl → Nv → Prop} {QI : List D → Nv → Prop} {QP : Option Int → Nv → Prop}
  {f h : Nv → R D} {fa fb fc : Nv → R Ar} {t u : Nv → R Bool} {s s2 : Nv → R Fl} {fs : List (Nv → R Ar)} {fl : Nv → R (List Ar)} {i j : Nat} {d : D} {o o' : D → D → Option D}
theorem x_val {α : Type} {a : α} {Q : α → Nv → Prop} {g : Tg Q} : run Q g (.val a E) = Q a E := rfl
theorem x_bad {α : Type} {Q : α → Nv → Prop} {g : Tg Q} : run Q g .bad = False := rfl
theorem x_exc {α : Type} {Q : α → Nv → Prop} {g : Tg Q} {c : Nat} {fs : Option (Str × D)} : run Q g (.exc c fs E) = False := rfl
theorem x_Rsome {α : Type} {a : α} : R.some (some a) E = .val a E := rfl
theorem x_Rnone {α : Type} : (R.some none E : R α) = .bad := rfl
theorem x_ite {α : Type} {a : α} {c : Prop} {ic : Decidable c} {Q : α → Nv → Prop} {g : Tg Q} : run Q g (R.some (@ite _ c ic (some a) none) E) = (c ∧ Q a E) := wp_someIte
theorem x_fPk {g : Tg QA} : run QA g (fPk i E) = run QA g (pkV E[i]? i E) := by
  unfold run fPk pkV; cases E[i]? with
  | none => rfl
  | some s => cases s <;> rfl
theorem x_fVar {g : Tg QD} : run QD g (fVar i E) = run QD g (vrV E[i]? i E) := by
  unfold run fVar vrV; cases E[i]? with
  | none => rfl
  | some s => cases s <;> rfl
theorem pkV_fz : pkV (some (.fz d)) i E = .val (.pk i) E := rfl
theorem pkV_own : pkV (some (.own d)) i E = .val (.pk i) E := rfl
theorem pkV_bor {k : Nat} : pkV (some (.bor k d)) i E = .val (.pk i) E := rfl
theorem vrV_fz : vrV (some (.fz d)) i E = .val d E := rfl
theorem vrV_own : vrV (some (.own d)) i E = .val d (E.set i (.fz d)) := rfl
theorem get_v : Ar.get E (.v d) = some d := rfl
theorem get_pk : Ar.get E (.pk i) = slC E[i]? := by unfold Ar.get slC; rfl
theorem slC_fz : slC (some (.fz d)) = some d := rfl
theorem slC_own : slC (some (.own d)) = some d := rfl
theorem slC_bor {k : Nat} : slC (some (.bor k d)) = some d := rfl
theorem x_fC {g : Tg QD} : run QD g (fC d E) = QD d E := rfl
theorem x_fV {g : Tg QA} : run QA g (fV f E) = run (fun d E1 => QA (.v d) E1) () (f E) := wp_fV
theorem x_fOp2 {g : Tg QD} : run QD g (fOp2 o fa fb E) = run (fun a E1 => run (fun b E2 => run QD () (R.some (r2 o (a.get E2) (b.get E2)) E2)) () (fb E1)) () (fa E) := by
  unfold run; rw [wp_fOp2]
  congr; funext a E1; congr; funext b E2
  unfold res2 r2; cases a.get E2 <;> cases b.get E2 <;> rfl
theorem r2_ss {d e : D} : r2 o (some d) (some e) = o d e := rfl
theorem x_fAs0 {g : Tg QL} : run QL g (fAs [] E) = QL [] E := rfl
theorem x_fAs1 {g : Tg QL} : run QL g (fAs (fa :: fs) E) = run (fun a E1 => run (fun as E2 => QL (a :: as) E2) () (fAs fs E1)) () (fa E) := wp_fAs1
theorem x_arGets0 : arGets E [] = some [] := rfl
theorem x_arGets1 {a : Ar} {as : List Ar} : arGets E (a :: as) = cons2 (a.get E) (arGets E as) := by
  rw [arGets]; unfold cons2; cases a.get E with
  | none => rfl
  | some d => cases arGets E as <;> rfl
theorem cons2_s {ds : List D} : cons2 (some d) (some ds) = some (d :: ds) := rfl
theorem x_valsOf0 : valsOf [] = some [] := rfl
theorem x_valsOf1 {as : List Ar} : valsOf (.v d :: as) = cons2 (some d) (valsOf as) := by rw [valsOf]; unfold cons2; cases valsOf as <;> rfl
theorem rL_s {o : List D → Option D} {ds : List D} : rL o (some ds) = o ds := rfl
theorem x_fOpL {o : List D → Option D} {g : Tg QD} : run QD g (fOpL o fl E) = run (fun as E1 => run QD () (R.some (rL o (arGets E1 as)) E1)) () (fl E) := by
  unfold run; rw [wp_fOpL]; congr; funext as E1; unfold resL rL; cases arGets E1 as <;> rfl
theorem x_fOpV {o : List D → Option D} {g : Tg QD} : run QD g (fOpV o fl E) = run (fun as E1 => run QD () (R.some (rL o (valsOf as)) E1)) () (fl E) := by
  unfold run; rw [wp_fOpV]; congr; funext as E1; unfold resV rL; cases valsOf as <;> rfl
theorem x_fAnd {g : Tg QD} : run QD g (fAnd f h E) = run (andK h QD ()) () (f E) := wp_fAnd
theorem x_fOr {g : Tg QD} : run QD g (fOr f h E) = run (orK h QD ()) () (f E) := wp_fOr
theorem andK_t {g : Tg (h, QD)} : andK h QD g (.bl true) E = run QD () (h E) := by unfold andK asB run; simp
theorem andK_f {g : Tg (h, QD)} : andK h QD g (.bl false) E = QD (.bl false) E := by unfold andK asB; simp
theorem orK_t {g : Tg (h, QD)} : orK h QD g (.bl true) E = QD (.bl true) E := by unfold orK asB; simp
theorem orK_f {g : Tg (h, QD)} : orK h QD g (.bl false) E = run QD () (h E) := by unfold orK asB run; simp
theorem andK_if {b : Bool} {g : Tg (h, QD)} (h1 : b = true → run QD () (h E)) (h2 : b = false → QD (.bl false) E) : andK h QD g (.bl b) E := by
  cases b with
  | true => rw [andK_t]; exact h1 rfl
  | false => rw [andK_f]; exact h2 rfl
theorem orK_if {b : Bool} {g : Tg (h, QD)} (h1 : b = false → run QD () (h E)) (h2 : b = true → QD (.bl true) E) : orK h QD g (.bl b) E := by
  cases b with
  | true => rw [orK_t]; exact h2 rfl
  | false => rw [orK_f]; exact h1 rfl
theorem x_tAnd {g : Tg QB} : run QB g (tAndF t u E) = run (tandK u QB ()) () (t E) := wp_tAndF
theorem x_tOr {g : Tg QB} : run QB g (tOrF t u E) = run (torK u QB ()) () (t E) := wp_tOrF
theorem x_tNot {g : Tg QB} : run QB g (tNotF t E) = run (fun b E1 => QB (!b) E1) () (t E) := wp_tNotF
theorem tandK_t {g : Tg (u, QB)} : tandK u QB g true E = run QB () (u E) := rfl
theorem tandK_f {g : Tg (u, QB)} : tandK u QB g false E = QB false E := rfl
theorem torK_t {g : Tg (u, QB)} : torK u QB g true E = QB true E := rfl
theorem torK_f {g : Tg (u, QB)} : torK u QB g false E = run QB () (u E) := rfl
theorem tandK_if {b : Bool} {g : Tg (u, QB)} (h1 : b = true → run QB () (u E)) (h2 : b = false → QB false E) : tandK u QB g b E := by
  cases b with
  | true => exact h1 rfl
  | false => exact h2 rfl
theorem torK_if {b : Bool} {g : Tg (u, QB)} (h1 : b = false → run QB () (u E)) (h2 : b = true → QB true E) : torK u QB g b E := by
  cases b with
  | true => exact h2 rfl
  | false => exact h1 rfl
theorem x_fIf {α : Type} {Q : α → Nv → Prop} {f g : Nv → R α} {k : Tg Q} : run Q k (fIf t f g E) = run (ifK f g Q ()) () (t E) := wp_fIf
theorem ifK_t {α : Type} {Q : α → Nv → Prop} {f g : Nv → R α} {k : Tg (f, g, Q)} : ifK f g Q k true E = run Q () (f E) := rfl
theorem ifK_f {α : Type} {Q : α → Nv → Prop} {f g : Nv → R α} {k : Tg (f, g, Q)} : ifK f g Q k false E = run Q () (g E) := rfl
theorem ifK_if {α : Type} {Q : α → Nv → Prop} {f g : Nv → R α} {k : Tg (f, g, Q)} {b : Bool} (h1 : b = true → run Q () (f E)) (h2 : b = false → run Q () (g E)) : ifK f g Q k b E := by
  cases b with
  | true => exact h1 rfl
  | false => exact h2 rfl
theorem x_fTest {g : Tg QB} : run QB g (fTest f E) = run (fun d E1 => run QB () (R.some (asB d) E1)) () (f E) := by unfold run fTest; simp only [wp_bind]
theorem asB_bl {b : Bool} : asB (.bl b) = some b := rfl
theorem x_fNot {g : Tg QD} : run QD g (fNot f E) = run (fun d E1 => run (fun b E2 => QD (.bl (!b)) E2) () (R.some (asB d) E1)) () (f E) := by
  unfold run; rw [wp_fNot]; congr; funext d E1; cases asB d <;> simp [R.some, wp]
theorem x_fChain {g : Tg QD} : run QD g (fChain o o' fa fb fc E) = run (fun a E1 => run (fun b E2 => run (chK o' fc b QD ()) () (R.some (r2 o (a.get E2) (b.get E2)) E2)) () (fb E1)) () (fa E) := by
  unfold run; rw [wp_fChain]; congr; funext a E1; congr; funext b E2
  unfold res2 r2 chK; cases a.get E2 <;> cases b.get E2 <;> rfl
theorem chK_t {b : Ar} {g : Tg (o', fc, b, QD)} : chK o' fc b QD g (.bl true) E = run (fun c E4 => run QD () (R.some (r2 o' (b.get E4) (c.get E4)) E4)) () (fc E) := by
  unfold chK asB run; simp only [true_and, Option.some.injEq, Bool.true_eq_false, false_and, or_false]
  congr; funext a E1; unfold res2 r2; cases b.get E1 <;> cases a.get E1 <;> rfl
theorem chK_f {b : Ar} {g : Tg (o', fc, b, QD)} : chK o' fc b QD g (.bl false) E = QD (.bl false) E := by unfold chK asB; simp
theorem chK_if {b : Ar} {g : Tg (o', fc, b, QD)} {z : Bool} (h1 : z = true → run (fun c E4 => run QD () (R.some (r2 o' (b.get E4) (c.get E4)) E4)) () (fc E)) (h2 : z = false → QD (.bl false) E) : chK o' fc b QD g (.bl z) E := by
  cases z with
  | true => rw [chK_t]; exact h1 rfl
  | false => rw [chK_f]; exact h2 rfl
/-! statements -/
theorem x_fNx {g : Tg QS} : run QS g (fNx E) = QS .nx E := rfl
theorem x_fBrk {g : Tg QS} : run QS g (fBrk E) = QS .bk E := rfl
theorem x_fCnt {g : Tg QS} : run QS g (fCnt E) = QS .ct E := rfl
theorem x_fBad {α : Type} {Q : α → Nv → Prop} {g : Tg Q} : run Q g (fBad E) = False := rfl
theorem x_seq {g : Tg QS} : run QS g (fSeq s s2 E) = run (seqK s2 QS ()) () (s E) := wp_fSeq
theorem seqK_nx {g : Tg (s, QS)} : seqK s QS g .nx E = run QS () (s E) := rfl
theorem seqK_rt {g : Tg (s, QS)} : seqK s QS g (.rt d) E = QS (.rt d) E := rfl
theorem seqK_rn {g : Tg (s, QS)} : seqK s QS g (.rn d) E = QS (.rn d) E := rfl
theorem seqK_bk {g : Tg (s, QS)} : seqK s QS g .bk E = QS .bk E := rfl
theorem seqK_ct {g : Tg (s, QS)} : seqK s QS g .ct E = QS .ct E := rfl
theorem loopK_nx {I : List D → Nv → Prop} {r : List D} {g : Tg (I, r, QS)} : loopK I r QS g .nx E = I r E := rfl
theorem loopK_ct {I : List D → Nv → Prop} {r : List D} {g : Tg (I, r, QS)} : loopK I r QS g .ct E = I r E := rfl
theorem loopK_bk {I : List D → Nv → Prop} {r : List D} {g : Tg (I, r, QS)} : loopK I r QS g .bk E = QS .nx E := rfl
theorem loopK_rt {I : List D → Nv → Prop} {r : List D} {g : Tg (I, r, QS)} : loopK I r QS g (.rt d) E = QS (.rt d) E := rfl
theorem loopK_rn {I : List D → Nv → Prop} {r : List D} {g : Tg (I, r, QS)} : loopK I r QS g (.rn d) E = QS (.rn d) E := rfl
theorem endK_nx {as : List Sl} {Q : D → List Sl → Prop} {g : Tg (as, Q)} : endK as Q g .nx E = bakK as Q .non () (backs as E) := rfl
theorem endK_rt {as : List Sl} {Q : D → List Sl → Prop} {g : Tg (as, Q)} : endK as Q g (.rt d) E = bakK as Q d () (backs as E) := rfl
theorem endM_rn {as : List Sl} {Q : D → List Sl → Prop} {g : Tg (as, Q)} : endM as Q g (.rn d) E = bakK as Q d () (backs as E) := rfl
theorem bakK_s {as b : List Sl} {Q : D → List Sl → Prop} {g : Tg (as, Q, d)} : bakK as Q d g (some b) = Q d b := ex_some
theorem bk_nil' {E : Nv} : backs [] E = some [] := rfl
theorem bk_fz' {x : D} {as : List Sl} {e : Sl} : backs (.fz x :: as) (e :: E) = bCons .no (backs as E) := by rw [backs]; unfold bCons; cases backs as E <;> rfl; all_goals (intros; contradiction)
theorem bk_bor' {x : D} {as : List Sl} {k : Nat} : backs (.bor k x :: as) (.bor k d :: E) = bCons (.bor k d) (backs as E) := by rw [backs]; simp only [if_pos]; unfold bCons; cases backs as E <;> rfl
theorem bCons_s {a : Sl} {b : List Sl} : bCons a (some b) = some (a :: b) := rfl
theorem x_fDrop {g : Tg QS} : run QS g (fDrop f E) = run (fun _ E1 => QS .nx E1) () (f E) := wp_fDrop
theorem x_fRet {g : Tg QS} : run QS g (fRet f E) = run (fun d E1 => QS (.rt d) E1) () (f E) := wp_fRet
theorem x_fRetN {g : Tg QS} : run QS g (fRetN f E) = run (fun d E1 => QS (.rn d) E1) () (f E) := wp_fRetN
theorem x_fRet0 {g : Tg QS} : run QS g (fRet0 E) = QS (.rt .non) E := rfl
theorem x_fSet {g : Tg QS} : run QS g (fSet i f E) = run (fun d E1 => QS .nx (E1.set i (.fz d))) () (f E) := wp_fSet
theorem x_fSetN {g : Tg QS} : run QS g (fSetN i f E) = run (fun d E1 => QS .nx (E1.set i (.own d))) () (f E) := wp_fSetN
theorem x_fPar {g : Tg QS} : run QS g (fPar i j f h E) = run (fun d E1 => run (fun e E2 => QS .nx ((E2.set i (.fz d)).set j (.fz e))) () (h E1)) () (f E) := wp_fPar
theorem x_fParNE {g : Tg QS} : run QS g (fParNE i j f h E) = run (fun d E1 => run (fun e E2 => QS .nx ((E2.set i (.own d)).set j (.fz e))) () (h E1)) () (f E) := wp_fParNE
theorem x_fParEN {g : Tg QS} : run QS g (fParEN i j f h E) = run (fun d E1 => run (fun e E2 => QS .nx ((E2.set i (.fz d)).set j (.own e))) () (h E1)) () (f E) := wp_fParEN
theorem x_fAsg {b : Bd} {g : Tg QS} : run QS g (fAsg f b E) = run (asgK b QS ()) () (f E) := wp_fAsg
theorem x_asgK {b : Bd} {g : Tg (b, QS)} : asgK b QS g d E = someK (fun E2 => QS .nx E2) () (b d E) := rfl
theorem someK_s {Q : Nv → Prop} {g : Tg Q} : someK Q g (some E) = Q E := ex_some
theorem x_bName : bName i d E = some (E.set i (.fz d)) := rfl
theorem x_bTup {bs : List Bd} {ds : List D} : bTup bs (.tup ds) E = bAll bs ds E := rfl
theorem x_bAll0 : bAll [] [] E = some E := rfl
theorem x_bAll1 {b : Bd} {bs : List Bd} {ds : List D} : bAll (b :: bs) (d :: ds) E = (b d E).bind fun E1 => bAll bs ds E1 := rfl
theorem x_obind {α β : Type} {a : α} {g : α → Option β} : (some a).bind g = g a := by
  have h : ∀ o : Option α, o = some a → o.bind g = g a := fun o e => by rw [e]; rfl
  exact h _ rfl
theorem x_fFor {fi : Nv → R (List D)} {b : Bd} {g : Tg QS} : run QS g (fFor fi b s E) = run (forK b s QS ()) () (fi E) := wp_fFor
theorem x_fLc {fi : Nv → R (List D)} {b : Bd} {vs : List Nat} {g : Tg QD} : run QD g (fLc fi b t f vs E) = run (lcK b t f vs QD ()) () (fi E) := wp_fLc
theorem x_fCall {fn : Fn} {g : Tg QD} : run QD g (fCall fn fl E) = run (fun as E1 => calK fn as QD () E1 (lend E1 0 as)) () (fl E) := by
  unfold run; rw [wp_fCall]; congr; funext as E1
  unfold calK
  cases z : lend E1 0 as with
  | none => simp [resC, z, wp]
  | some xs =>
    by_cases ho : once as = true
    · rw [wp_resC z ho]; simp [ho]
    · simp [resC, z, ho, wp]
theorem x_fCallN {fn : Fn} {g : Tg QD} : run QD g (fCallN fn fl E) = run (fun as E1 => calM fn as QD () E1 (lend E1 0 as)) () (fl E) := by
  unfold run; rw [wp_fCallN]; congr; funext as E1
  unfold calM
  cases z : lend E1 0 as with
  | none => simp [resCN, z, wp]
  | some xs =>
    by_cases ho : once as = true
    · rw [wp_resCN z ho]; simp [ho]
    · simp [resCN, z, ho, wp]
theorem calK_s {fn : Fn} {ars : List Ar} {as : List Sl} {g : Tg (fn, ars, QD)} (ho : once ars = true) : calK fn ars QD g E (some as) = runC (retK as ars QD E ()) () (fn as) := by
  unfold calK runC retK; simp [ho]
theorem calM_s {fn : Fn} {ars : List Ar} {as : List Sl} {g : Tg (fn, ars, QD)} (ho : once ars = true) : calM fn ars QD g E (some as) = runN (retK as ars QD E ()) () (fn as) := by
  unfold calM runN retK; simp [ho]
theorem retK_s {as bs : List Sl} {ars : List Ar} {g : Tg (as, ars, QD, E)} (hs : shape as bs = true) : retK as ars QD E g d bs = backK QD () d (unlend ars bs E) := by unfold retK backK; simp [hs]
theorem x_backK {g : Tg QD} : backK QD g d E = QD d E := rfl
theorem runC_val {bs : List Sl} {Q : D → List Sl → Prop} {g : Tg Q} : runC Q g (.val d bs) = Q d bs := rfl
theorem runN_new {bs : List Sl} {Q : D → List Sl → Prop} {g : Tg Q} : runN Q g (.new d bs) = Q d bs := rfl
theorem lend0 {m : Nat} : lend E m [] = some [] := rfl
theorem lend_v1 {m : Nat} {r : List Ar} : lend E m (.v d :: r) = sCons2 (some (.fz d)) (lend E (m + 1) r) := by rw [lend]; unfold sCons2; cases lend E (m + 1) r <;> rfl
theorem lend_pk1 {m : Nat} {r : List Ar} : lend E m (.pk j :: r) = sCons2 (lendS1 m E[j]?) (lend E (m + 1) r) := by
  rw [lend]; unfold sCons2
  cases E[j]? with
  | none => rfl
  | some s => cases s <;> cases lend E (m + 1) r <;> rfl
theorem sCons2_s {a : Sl} {b : List Sl} : sCons2 (some a) (some b) = some (a :: b) := rfl
theorem lendS1_fz {m : Nat} : lendS1 m (some (.fz d)) = some (.fz d) := rfl
theorem lendS1_own {m : Nat} : lendS1 m (some (.own d)) = some (.bor m d) := rfl
theorem lendS1_bor {m k : Nat} : lendS1 m (some (.bor k d)) = some (.bor m d) := rfl
theorem unl_pk {r : List Ar} {bs : List Sl} {k : Nat} : unlend (.pk j :: r) (.bor k d :: bs) E = unlend r bs (E.set j (putO E[j]? d)) := by
  rw [unlend]; unfold putO
  cases z : E[j]? with
  | some s => rfl
  | none =>
    have : E.length ≤ j := List.getElem?_eq_none_iff.mp z
    simp only
    rw [List.set_eq_of_length_le this]
theorem unl_pkno {r : List Ar} {bs : List Sl} : unlend (.pk j :: r) (.no :: bs) E = unlend r bs E := by
  rw [unlend]
  intro _ _ _ _ h2
  cases h2
theorem unl_v {r : List Ar} {b : Sl} {bs : List Sl} : unlend (.v d :: r) (b :: bs) E = unlend r bs E := by
  rw [unlend]
  intro _ _ _ h1 _
  cases h1
theorem unl_nil {bs : List Sl} : unlend [] bs E = E := by cases bs <;> rfl
theorem putO_fz {x : D} : putO (some (.fz x)) d = .fz x := rfl
theorem putO_own {x : D} : putO (some (.own x)) d = .own d := rfl
theorem putO_bor {x : D} {k : Nat} : putO (some (.bor k x)) d = .bor k d := rfl
theorem x_fFld {n : Str} {g : Tg QD} : run QD g (fFld n fa E) = run (fun a E1 => run QD () (R.some (rFld n (a.get E1)) E1)) () (fa E) := by
  unfold run; rw [wp_fFld]; congr; funext a E1; unfold resFld rFld; cases a.get E1 with
  | none => rfl
  | some d => cases d <;> rfl
theorem rFld_s {n : Str} {c : Nat} {ns : List Str} {ds : List D} : rFld n (some (.ins c ns ds)) = lookD n ns ds := rfl
theorem x_fSl {p q : Nv → R (Option Int)} {g : Tg QD} : run QD g (fSl fa p q E) = run (fun a E1 => run (fun lo E2 => run (fun hi E3 => run QD () (R.some (rSl lo hi (a.get E3)) E3)) () (q E2)) () (p E1)) () (fa E) := by
  unfold run; rw [wp_fSl]; congr; funext a E1; congr; funext lo E2; congr; funext hi E3; unfold resSl rSl; cases a.get E3 <;> rfl
theorem rSl_s {lo hi : Option Int} : rSl lo hi (some d) = oSl d lo hi := rfl
theorem x_pNone {g : Tg QP} : run QP g (pNone E) = QP none E := rfl
theorem x_pSome {g : Tg QP} : run QP g (pSome f E) = run (fun d E1 => run (fun i E2 => QP (some i) E2) () (R.some (asI d) E1)) () (f E) := by
  unfold run pSome; rw [wp_bind]; congr; funext d E1; cases asI d <;> rfl
theorem asI_int {i : Int} : asI (.int i) = some i := rfl
theorem x_iAny {g : Tg QI} : run QI g (iAnyF f E) = run (fun d E1 => run QI () (R.some (itAny d) E1)) () (f E) := wp_iAnyF
theorem x_iRng {g : Tg QI} : run QI g (iRng fl E) = run (fun as E1 => run QI () (R.some ((valsOf as).bind itR) E1)) () (fl E) := by
  unfold run iRng; rw [wp_bind]; congr; funext d E1; cases valsOf d <;> rfl
theorem x_iZip {g : Tg QI} : run QI g (iZip fl E) = run (fun as E1 => run QI () (R.some ((valsOf as).bind itZ) E1)) () (fl E) := by
  unfold run iZip; rw [wp_bind]; congr; funext d E1; cases valsOf d <;> rfl
theorem x_iEnum {g : Tg QI} : run QI g (iEnumF fl E) = run (fun as E1 => run QI () (R.some ((valsOf as).bind itE) E1)) () (fl E) := by
  unfold run iEnumF; rw [wp_bind]; congr; funext d E1; cases valsOf d <;> rfl
theorem x_fSetIx {g : Tg QS} : run QS g (fSetIx i f h E) = run (fun d E1 => run (fun _ E2 => run (fun k E3 => run (fun x E4 => QS .nx (E4.set i x)) () (R.some (rIx E3[i]? d k) E3)) () (f E2)) () (fPk i E1)) () (h E) := by
  unfold run; rw [wp_fSetIx]; congr; funext d E1; congr; funext a E2; congr; funext k E3
  unfold setIx rIx
  cases E3[i]? with
  | none => rfl
  | some s =>
    cases z : s.cell with
    | none => cases k <;> simp [z, R.some, wp]
    | some c =>
      cases c <;> cases k <;> simp [z, R.some, wp]
      rename_i ds m
      cases ixN ds.length m <;> rfl
theorem rIx_own {ds : List D} {i : Int} : rIx (some (.own (.lst ds))) d (.int i) = (ixN ds.length i).map fun m => .own (.lst (ds.set m d)) := by
  unfold rIx Sl.cell; simp only; cases ixN ds.length i <;> rfl
theorem rIx_bor {ds : List D} {i : Int} {k : Nat} : rIx (some (.bor k (.lst ds))) d (.int i) = (ixN ds.length i).map fun m => .bor k (.lst (ds.set m d)) := by
  unfold rIx Sl.cell; simp only; cases ixN ds.length i <;> rfl
theorem x_fMt {m : D → List D → Option (D × D)} {g : Tg QD} : run QD g (fMt i m fl E) = run (fun _ E1 => mtK m i fl QD () (slC E1[i]?) E1) () (fPk i E) := by
  unfold run; rw [wp_fMt]; congr
theorem mtK_s {m : D → List D → Option (D × D)} {ds : List D} {g : Tg (m, fl, QD)} : mtK m i fl QD g (some (.lst ds)) E = run (fun as E2 => run (fun z E3 => QD z.1 (E3.set i (putO E3[i]? z.2))) () (R.some (rMt m E2[i]? (valsOf as)) E2)) () (fl E) := by
  unfold mtK run; rw [ex_some]; simp only [isLst, true_and]
  congr; funext as E2
  unfold resMt rMt
  cases valsOf as with
  | none => cases E2[i]? <;> rfl
  | some ds => cases z : E2[i]? with
    | none => rfl
    | some s =>
      simp only
      cases s.cell with
      | none => rfl
      | some c => simp only; cases m c ds <;> simp [R.some, wp, putO, z]
theorem rMt_own {m : D → List D → Option (D × D)} {ds : List D} : rMt m (some (.own d)) (some ds) = m d ds := rfl
theorem rMt_bor {m : D → List D → Option (D × D)} {ds : List D} {k : Nat} : rMt m (some (.bor k d)) (some ds) = m d ds := rfl
theorem x_fIsiT {fc : Nv → R (List Ar)} {g : Tg QD} : run QD g (fIsiT fa fc E) = run (fun a E1 => run (fun cs E2 => run QD () (R.some (rIsT (a.get E2) (valsOf cs)) E2)) () (fc E1)) () (fa E) := by
  unfold run fIsiT; simp only [wp_bind]; congr; funext a E1; congr; funext cs E2
  unfold resIsiT rIsT
  cases a.get E2 with
  | none => rfl
  | some x =>
    simp only
    cases tyName x with
    | none => cases valsOf cs <;> rfl
    | some t => cases valsOf cs with
      | none => rfl
      | some ds =>
        simp only
        cases tyNames ds with
        | none => rfl
        | some l => simp only; split <;> rfl
theorem x_fSetFld {n : Str} {g : Tg QS} : run QS g (fSetFld i n f E) = run (fun d E1 => run (fun _ E2 => run QS () (setFld i n d E2)) () (fPk i E1)) () (f E) := wp_fSetFld
/-! the whole def -/
theorem eq_of_wpF {r : FR} {x : D} {y : List Sl} (h : wpF r fun d bs => d = x ∧ bs = y) : r = .val x y := by
  cases r with
  | val d bs => obtain ⟨rfl, rfl⟩ := h; rfl
  | _ => exact h.elim
theorem eq_of_wpN {r : FR} {x : D} {y : List Sl} (h : wpN r fun d bs => d = x ∧ bs = y) : r = .new x y := by
  cases r with
  | new d bs => obtain ⟨rfl, rfl⟩ := h; rfl
  | _ => exact h.elim
theorem fn_run {N : Nat} {as : List Sl} {Q : D → List Sl → Prop} (h : run (endK as Q ()) () (s (as ++ List.replicate (N - as.length) .no))) : wpF (runF N s as) Q := run_wp h
theorem fn_runN {N : Nat} {as : List Sl} {Q : D → List Sl → Prop} (h : run (endM as Q ()) () (s (as ++ List.replicate (N - as.length) .no))) : wpN (runF N s as) Q := run_wpN h
theorem fn_eq {N : Nat} {as : List Sl} {x : D} {y : List Sl} (h : run (endK as (fun d bs => d = x ∧ bs = y) ()) () (s (as ++ List.replicate (N - as.length) .no))) : runF N s as = .val x y := eq_of_wpF (run_wp h)
theorem fn_eqN {N : Nat} {as : List Sl} {x : D} {y : List Sl} (h : run (endM as (fun d bs => d = x ∧ bs = y) ()) () (s (as ++ List.replicate (N - as.length) .no))) : runF N s as = .new x y := eq_of_wpN (run_wpN h)
/-- a call by its promise -/
theorem call_by {fn : Fn} {as : List Sl} {Q P : D → List Sl → Prop} {g : Tg Q} (h : wpF (fn as) P) (k : ∀ d bs, P d bs → Q d bs) : runC Q g (fn as) := wpF_imp h k
theorem call_eq {fn : Fn} {as bs : List Sl} {d : D} {Q : D → List Sl → Prop} {g : Tg Q} (h : fn as = .val d bs) (k : Q d bs) : runC Q g (fn as) := by unfold runC; rw [h]; exact k
/-- a loop by an invariant -/
theorem for_run {b : Bd} {ds : List D} {g : Tg (b, s, QS)} (I : List D → Nv → Prop) (h0 : I ds E) (turn : ∀ d r E, I (d :: r) E → someK (fun E1 => run (loopK I r QS ()) () (s E1)) () (b d E)) (fin : ∀ E, I [] E → QS .nx E) : forK b s QS g ds E :=
  for_wp I h0 turn fin
/-- a loop over x :: the rest, by a state of your own -/
theorem for_state {σ : Type} {b : Bd} {ds : List D} {g : Tg (b, s, QS)} (env : σ → Nv → Prop) (I : List D → σ → Prop) (x0 : σ) (h0 : env x0 E) (i0 : I ds x0)
    (turn : ∀ d r x E, I (d :: r) x → env x E → someK (fun E1 => run (loopK (fun r E => ∃ y, env y E ∧ I r y) r QS ()) () (s E1)) () (b d E)) (fin : ∀ x E, env x E → I [] x → QS .nx E) : forK b s QS g ds E :=
  for_run (fun r E => ∃ y, env y E ∧ I r y) ⟨x0, h0, i0⟩ (fun d r E ⟨y, h1, h2⟩ => turn d r y E h2 h1) fun E ⟨y, h1, h2⟩ => fin y E h1 h2
/-- a comprehension by an invariant -/
theorem lc_run {b : Bd} {ds : List D} {vs : List Nat} {g : Tg (b, t, f, vs, QD)} (I : List D → List D → Nv → Prop) (h0 : I ds [] (wipeE E vs))
    (turn : ∀ d r acc E, I (d :: r) acc E → someK (fun E1 => run (fun k E2 => ifK f (fun E => R.bad) (fun x E3 => acc.length < sizeLine ∧ I r (acc ++ [x]) (wipeE E3 vs)) () k E2 ∨ (k = false ∧ I r acc (wipeE E2 vs))) () (t E1)) () (b d E))
    (fin : ∀ acc E2, I [] acc E2 → QD (.lst acc) (restoreE E E2 vs)) : lcK b t f vs QD g ds E := by
  refine wp_lcL I h0 (fun d r acc E h => ?_) fin
  obtain ⟨E1, e, w⟩ := turn d r acc E h
  refine ⟨E1, e, wp_imp w fun k E2 q => ?_⟩
  cases k with
  | true =>
    rcases q with q | ⟨q, _⟩
    · exact q
    · cases q
  | false =>
    rcases q with q | ⟨_, q⟩
    · exact (show False from q).elim
    · exact q
/-- a comprehension, no test, whose element is known and leaves the slots -/
theorem lc_map {b : Bd} {ds : List D} {vs : List Nat} {g : Tg (b, tYesF, f, vs, QD)} (k : D → D) (hl : ds.length ≤ sizeLine)
    (turn : ∀ d, d ∈ ds → someK (fun E1 => run (fun x E3 => x = k d ∧ wipeE E3 vs = wipeE E vs) () (f E1)) () (b d (wipeE E vs)))
    (fin : QD (.lst (ds.map k)) (restoreE E (wipeE E vs) vs)) : lcK b tYesF f vs QD g ds E := by
  refine lc_run (fun r acc E2 => ∃ l, ds = l ++ r ∧ acc = l.map k ∧ E2 = wipeE E vs) ⟨[], rfl, rfl, rfl⟩ ?_ ?_
  · rintro d r acc E2 ⟨l, rfl, rfl, rfl⟩
    obtain ⟨E1, e, w⟩ := turn d (by simp)
    refine ⟨E1, e, .inl (wp_imp w ?_)⟩
    rintro x E3 ⟨rfl, e3⟩
    refine ⟨?_, l ++ [d], by simp, by simp, e3⟩
    have : (l ++ d :: r).length = l.length + r.length + 1 := by simp; omega
    rw [List.length_map]; omega
  · rintro acc E2 ⟨l, rfl, rfl, rfl⟩
    simpa using fin
theorem once_0 : once [] = true := of_eq_true (eq_true rfl)
def pkIs (j : Nat) (a : Ar) : Bool := match a with
  | .pk i => i == j
  | _ => false
theorem pkIs_v : pkIs j (.v d) = false := rfl
theorem pkIs_pk : pkIs j (.pk i) = (i == j) := rfl
theorem once_v {r : List Ar} : once (.v d :: r) = once r := by rw [once]; intro _ h; cases h
theorem once_pk {r : List Ar} : once (.pk j :: r) = (!(r.any (pkIs j)) && once r) := rfl
theorem sh_0 : shape [] [] = true := of_eq_true (eq_true rfl)
theorem sh_fz' {a b : List Sl} {x : Sl} : shape (.fz d :: a) (x :: b) = shape a b := by rw [shape] <;> (intros; contradiction)
theorem sh_bor' {a b : List Sl} {k k' : Nat} {x : D} : shape (.bor k d :: a) (.bor k' x :: b) = shape a b := rfl
theorem B64_def {i : Int} : B64 i = (-(2 ^ 64) < i ∧ i < 2 ^ 64) := propext ⟨id, id⟩
theorem B63_def {i : Int} : B63 i = (-(2 ^ 63) ≤ i ∧ i < 2 ^ 63) := propext ⟨id, id⟩
theorem B62_def {i : Int} : B62 i = (-(2 ^ 62) ≤ i ∧ i < 2 ^ 62) := propext ⟨id, id⟩
theorem x_tYes {g : Tg QB} : run QB g (tYesF E) = QB true E := rfl
theorem x_ixL {ds : List D} {i : Int} : oIx (.lst ds) (.int i) = atI ds i := rfl
theorem x_ixT {ds : List D} {i : Int} : oIx (.tup ds) (.int i) = atI ds i := rfl
theorem tIsi {N : Nat} {x : D} {T : String} : oIsi N [x, .ty T] = (tyName x).bind fun t => if tgs.contains T = true then some (.bl (subTy t T)) else none := by
  show ((isiOne N x (.ty T)).map D.bl) = _
  unfold isiOne
  cases tyName x with
  | none => rfl
  | some t => by_cases h : tgs.contains T = true <;> simp [h]
theorem tgs_int : tgs.contains "int" = true := by decide
theorem tgs_bool : tgs.contains "bool" = true := by decide
theorem tgs_tuple : tgs.contains "tuple" = true := by decide
theorem tgs_list : tgs.contains "list" = true := by decide
theorem tgs_str : tgs.contains "str" = true := by decide
theorem st_own_bool : subTy "own" "bool" = false := by decide
theorem st_own_int : subTy "own" "int" = false := by decide
theorem st_own_str : subTy "own" "str" = false := by decide
theorem st_own_tuple : subTy "own" "tuple" = false := by decide
theorem st_own_list : subTy "own" "list" = false := by decide
theorem st_own_dict : subTy "own" "dict" = false := by decide
theorem st_NoneType_bool : subTy "NoneType" "bool" = false := by decide
theorem st_NoneType_int : subTy "NoneType" "int" = false := by decide
theorem st_NoneType_str : subTy "NoneType" "str" = false := by decide
theorem st_NoneType_tuple : subTy "NoneType" "tuple" = false := by decide
theorem st_NoneType_list : subTy "NoneType" "list" = false := by decide
theorem st_NoneType_dict : subTy "NoneType" "dict" = false := by decide
theorem st_bool_bool : subTy "bool" "bool" = true := by decide
theorem st_bool_int : subTy "bool" "int" = true := by decide
theorem st_bool_str : subTy "bool" "str" = false := by decide
theorem st_bool_tuple : subTy "bool" "tuple" = false := by decide
theorem st_bool_list : subTy "bool" "list" = false := by decide
theorem st_bool_dict : subTy "bool" "dict" = false := by decide
theorem st_int_bool : subTy "int" "bool" = false := by decide
theorem st_int_int : subTy "int" "int" = true := by decide
theorem st_int_str : subTy "int" "str" = false := by decide
theorem st_int_tuple : subTy "int" "tuple" = false := by decide
theorem st_int_list : subTy "int" "list" = false := by decide
theorem st_int_dict : subTy "int" "dict" = false := by decide
theorem st_str_bool : subTy "str" "bool" = false := by decide
theorem st_str_int : subTy "str" "int" = false := by decide
theorem st_str_str : subTy "str" "str" = true := by decide
theorem st_str_tuple : subTy "str" "tuple" = false := by decide
theorem st_str_list : subTy "str" "list" = false := by decide
theorem st_str_dict : subTy "str" "dict" = false := by decide
theorem st_tuple_bool : subTy "tuple" "bool" = false := by decide
theorem st_tuple_int : subTy "tuple" "int" = false := by decide
theorem st_tuple_str : subTy "tuple" "str" = false := by decide
theorem st_tuple_tuple : subTy "tuple" "tuple" = true := by decide
theorem st_tuple_list : subTy "tuple" "list" = false := by decide
theorem st_tuple_dict : subTy "tuple" "dict" = false := by decide
theorem st_list_bool : subTy "list" "bool" = false := by decide
theorem st_list_int : subTy "list" "int" = false := by decide
theorem st_list_str : subTy "list" "str" = false := by decide
theorem st_list_tuple : subTy "list" "tuple" = false := by decide
theorem st_list_list : subTy "list" "list" = true := by decide
theorem st_list_dict : subTy "list" "dict" = false := by decide
theorem st_dict_bool : subTy "dict" "bool" = false := by decide
theorem st_dict_int : subTy "dict" "int" = false := by decide
theorem st_dict_str : subTy "dict" "str" = false := by decide
theorem st_dict_tuple : subTy "dict" "tuple" = false := by decide
theorem st_dict_list : subTy "dict" "list" = false := by decide
theorem st_dict_dict : subTy "dict" "dict" = true := by decide
theorem tIsc {N c : Nat} {x : D} : oIsi N [x, .cls c] = (isiOne N x (.cls c)).map D.bl := rfl
theorem isc_ins {N c : Nat} {ns : List Str} {ds : List D} : isiOne N (.ins c ns ds) (.cls c) = some true := by unfold isiOne; simp
theorem isc_non {N c : Nat} : isiOne N .non (.cls c) = some false := rfl
theorem isc_bl {N c : Nat} {b : Bool} : isiOne N (.bl b) (.cls c) = some false := rfl
theorem isc_int {N c : Nat} {b : Int} : isiOne N (.int b) (.cls c) = some false := rfl
theorem isc_str {N c : Nat} {b : Str} : isiOne N (.str b) (.cls c) = some false := rfl
theorem isc_tup {N c : Nat} {b : List D} : isiOne N (.tup b) (.cls c) = some false := rfl
theorem isc_lst {N c : Nat} {b : List D} : isiOne N (.lst b) (.cls c) = some false := rfl
theorem isc_emp {N c : Nat} : isiOne N .emp (.cls c) = some false := rfl
theorem tgs_dict : tgs.contains "dict" = true := by decide
end
end FL

namespace FL
open PySem PySem.Spec PyProof.Rows L2
/-! ## loops over lists that are made of things of your own -/
def lpK (J : Nv → Prop) (Q : Fl → Nv → Prop) (_ : Tg (J, Q)) (fl : Fl) (E : Nv) : Prop := match fl with
  | .nx => J E
  | .ct => J E
  | .bk => Q .nx E
  | fl => Q fl E
def tsK (f : Nv → R D) (J : D → Nv → Prop) (N : Nv → Prop) (_ : Tg (f, J, N)) (b : Bool) (E : Nv) : Prop := if b = true then run J () (f E) else N E
section
variable {E : Nv} {QD : D → Nv → Prop} {QS : Fl → Nv → Prop} {f : Nv → R D} {t : Nv → R Bool} {s : Nv → R Fl} {J : Nv → Prop} {JD : D → Nv → Prop} {d : D} {b : Bd} {ds : List D} {α β : Type}
theorem lpK_nx {g : Tg (J, QS)} : lpK J QS g .nx E = J E := rfl
theorem lpK_ct {g : Tg (J, QS)} : lpK J QS g .ct E = J E := rfl
theorem lpK_bk {g : Tg (J, QS)} : lpK J QS g .bk E = QS .nx E := rfl
theorem lpK_rt {g : Tg (J, QS)} : lpK J QS g (.rt d) E = QS (.rt d) E := rfl
theorem lpK_rn {g : Tg (J, QS)} : lpK J QS g (.rn d) E = QS (.rn d) E := rfl
theorem tsK_t {g : Tg (f, JD, J)} : tsK f JD J g true E = run JD () (f E) := rfl
theorem tsK_f {g : Tg (f, JD, J)} : tsK f JD J g false E = J E := rfl
theorem tsK_if {g : Tg (f, JD, J)} {k : Bool} (h1 : k = true → run JD () (f E)) (h2 : k = false → J E) : tsK f JD J g k E := by
  cases k with
  | true => exact h1 rfl
  | false => exact h2 rfl
/-- by the rest -/
theorem for_maps {f : α → D} {xs : List α} {g : Tg (b, s, QS)} (P : List α → Nv → Prop) (h0 : P xs E)
    (turn : ∀ x r E, P (x :: r) E → someK (fun E1 => run (lpK (P r) QS ()) () (s E1)) () (b (f x) E)) (fin : ∀ E, P [] E → QS .nx E) : forK b s QS g (xs.map f) E := by
  refine for_run (fun r E => ∃ rs, r = rs.map f ∧ P rs E) ⟨xs, rfl, h0⟩ (fun d r E h => ?_) (fun E h => ?_)
  · obtain ⟨rs, e, p⟩ := h
    cases rs with
    | nil => cases e
    | cons x rs =>
      cases e
      obtain ⟨E1, e1, w⟩ := turn x rs E p
      refine ⟨E1, e1, wp_imp w fun fl E2 q => ?_⟩
      cases fl with
      | nx => exact ⟨rs, rfl, q⟩
      | ct => exact ⟨rs, rfl, q⟩
      | _ => exact q
  · obtain ⟨rs, e, p⟩ := h
    cases rs with
    | nil => exact fin E p
    | cons x rs => cases e
theorem for_ds {g : Tg (b, s, QS)} (P : List D → Nv → Prop) (h0 : P ds E)
    (turn : ∀ x r E, P (x :: r) E → someK (fun E1 => run (lpK (P r) QS ()) () (s E1)) () (b x E)) (fin : ∀ E, P [] E → QS .nx E) : forK b s QS g ds E := by
  have := for_maps (b := b) (s := s) (QS := QS) (g := g) (f := fun x => x) P h0 turn fin
  simpa using this
theorem enumD_map {f : α → D} : ∀ (n : Nat) (xs : List α), enumD n (xs.map f) = (xs.zipIdx n).map fun p => .tup [.int (p.2 : Nat), f p.1]
  | _, [] => rfl
  | n, x :: xs => by
    rw [List.map_cons, enumD, List.zipIdx_cons, List.map_cons, enumD_map (n + 1) xs]
theorem for_enum {f : α → D} {xs : List α} {g : Tg (b, s, QS)} (P : Nat → List α → Nv → Prop) (h0 : P 0 xs E)
    (turn : ∀ n x r E, P n (x :: r) E → someK (fun E1 => run (lpK (P (n + 1) r) QS ()) () (s E1)) () (b (.tup [.int (n : Nat), f x]) E)) (fin : ∀ n E, P n [] E → QS .nx E) : forK b s QS g (enumD 0 (xs.map f)) E := by
  rw [enumD_map]
  refine for_maps (fun r E => ∃ n rs, r = rs.zipIdx n ∧ P n rs E) ⟨0, xs, rfl, h0⟩ (fun p r E h => ?_) (fun E h => ?_)
  · obtain ⟨n, rs, e, p⟩ := h
    cases rs with
    | nil => cases e
    | cons x rs =>
      rw [List.zipIdx_cons] at e
      cases e
      obtain ⟨E1, e1, w⟩ := turn n x rs E p
      refine ⟨E1, e1, wp_imp w fun fl E2 q => ?_⟩
      cases fl with
      | nx => exact ⟨n + 1, rs, rfl, q⟩
      | ct => exact ⟨n + 1, rs, rfl, q⟩
      | _ => exact q
  · obtain ⟨n, rs, e, p⟩ := h
    cases rs with
    | nil => exact fin n E p
    | cons x rs => rw [List.zipIdx_cons] at e; cases e
theorem for_rng {lo : Int} {n : Nat} {g : Tg (b, s, QS)} (P : Nat → Nv → Prop) (h0 : P 0 E)
    (turn : ∀ i E, i < n → P i E → someK (fun E1 => run (lpK (P (i + 1)) QS ()) () (s E1)) () (b (.int (lo + i)) E)) (fin : ∀ E, P n E → QS .nx E) : forK b s QS g (rangeD lo n) E := by
  refine for_maps (fun r E => ∃ i, r = (List.range n).drop i ∧ i ≤ n ∧ P i E) ⟨0, rfl, Nat.zero_le _, h0⟩ (fun x r E h => ?_) (fun E h => ?_)
  · obtain ⟨i, e, hi, p⟩ := h
    by_cases hl : i < n
    · rw [List.drop_eq_getElem_cons (by simpa using hl)] at e
      cases e
      obtain ⟨E1, e1, w⟩ := turn i E hl p
      simp only [List.getElem_range]
      refine ⟨E1, e1, wp_imp w fun fl E2 q => ?_⟩
      cases fl with
      | nx => exact ⟨i + 1, rfl, hl, q⟩
      | ct => exact ⟨i + 1, rfl, hl, q⟩
      | _ => exact q
    · rw [List.drop_eq_nil_of_le (by simp; omega)] at e
      cases e
  · obtain ⟨i, e, hi, p⟩ := h
    have : n ≤ i := by simpa [List.drop_eq_nil_iff] using e.symm
    have : i = n := by omega
    subst this
    exact fin E p
/-- a comprehension over things of your own -/
theorem lc_maps {k : α → D} {xs : List α} {vs : List Nat} {g : Tg (b, t, f, vs, QD)} (hl : xs.length ≤ sizeLine) (P : List α → List D → Nv → Prop) (h0 : P xs [] (wipeE E vs))
    (turn : ∀ x r acc E, P (x :: r) acc E → someK (fun E1 => run (tsK f (fun y E3 => P r (acc ++ [y]) (wipeE E3 vs)) (fun E2 => P r acc (wipeE E2 vs)) ()) () (t E1)) () (b (k x) E))
    (fin : ∀ acc E2, P [] acc E2 → QD (.lst acc) (restoreE E E2 vs)) : lcK b t f vs QD g (xs.map k) E := by
  refine wp_lcL (fun r acc E => ∃ rs, r = rs.map k ∧ acc.length + rs.length ≤ sizeLine ∧ P rs acc E) ⟨xs, rfl, by simpa using hl, h0⟩ (fun d r acc E h => ?_) (fun acc E h => ?_)
  · obtain ⟨rs, e, hs, p⟩ := h
    cases rs with
    | nil => cases e
    | cons x rs =>
      cases e
      rw [List.length_cons] at hs
      obtain ⟨E1, e1, w⟩ := turn x rs acc E p
      refine ⟨E1, e1, wp_imp w fun c E2 q => ?_⟩
      cases c with
      | true =>
        rw [if_pos rfl]
        have q : wp (f E2) _ := q
        refine wp_imp q fun y E3 q2 => ⟨by omega, rs, rfl, ?_, q2⟩
        rw [List.length_append, List.length_singleton]; omega
      | false => exact ⟨rs, rfl, by omega, q⟩
  · obtain ⟨rs, e, hs, p⟩ := h
    cases rs with
    | nil => exact fin acc E p
    | cons x rs => cases e
theorem lc_ds {vs : List Nat} {g : Tg (b, t, f, vs, QD)} (hl : ds.length ≤ sizeLine) (P : List D → List D → Nv → Prop) (h0 : P ds [] (wipeE E vs))
    (turn : ∀ x r acc E, P (x :: r) acc E → someK (fun E1 => run (tsK f (fun y E3 => P r (acc ++ [y]) (wipeE E3 vs)) (fun E2 => P r acc (wipeE E2 vs)) ()) () (t E1)) () (b x E))
    (fin : ∀ acc E2, P [] acc E2 → QD (.lst acc) (restoreE E E2 vs)) : lcK b t f vs QD g ds E := by
  have := lc_maps (b := b) (t := t) (f := f) (QD := QD) (g := g) (k := fun x => x) hl P h0 turn fin
  simpa using this
/-- .. whose element is a function of the thing and that leaves the slots -/
theorem lc_fun {k : α → D} {xs : List α} {vs : List Nat} {g : Tg (b, tYesF, f, vs, QD)} (hl : xs.length ≤ sizeLine) (h : α → D)
    (turn : ∀ x, x ∈ xs → someK (fun E1 => run (fun y E3 => y = h x ∧ wipeE E3 vs = wipeE E vs) () (f E1)) () (b (k x) (wipeE E vs)))
    (fin : QD (.lst (xs.map h)) (restoreE E (wipeE E vs) vs)) : lcK b tYesF f vs QD g (xs.map k) E := by
  refine lc_maps hl (fun r acc E2 => ∃ l, xs = l ++ r ∧ acc = l.map h ∧ E2 = wipeE E vs) ⟨[], rfl, rfl, rfl⟩ ?_ ?_
  · rintro x r acc E2 ⟨l, rfl, rfl, rfl⟩
    obtain ⟨E1, e, w⟩ := turn x (by simp)
    refine ⟨E1, e, wp_imp (r := f E1) w ?_⟩
    rintro y E3 ⟨rfl, e3⟩
    exact ⟨l ++ [x], by simp, by simp, e3⟩
  · rintro acc E2 ⟨l, rfl, rfl, rfl⟩
    simpa using fin
theorem lc_rng {lo : Int} {n : Nat} {vs : List Nat} {g : Tg (b, t, f, vs, QD)} (hl : n ≤ sizeLine) (P : Nat → List D → Nv → Prop) (h0 : P 0 [] (wipeE E vs))
    (turn : ∀ i acc E, i < n → P i acc E → someK (fun E1 => run (tsK f (fun y E3 => P (i + 1) (acc ++ [y]) (wipeE E3 vs)) (fun E2 => P (i + 1) acc (wipeE E2 vs)) ()) () (t E1)) () (b (.int (lo + i)) E))
    (fin : ∀ acc E2, P n acc E2 → QD (.lst acc) (restoreE E E2 vs)) : lcK b t f vs QD g (rangeD lo n) E := by
  refine lc_maps (by simpa using hl) (fun r acc E => ∃ i, r = (List.range n).drop i ∧ i ≤ n ∧ P i acc E) ⟨0, rfl, Nat.zero_le _, h0⟩ (fun x r acc E h => ?_) (fun acc E h => ?_)
  · obtain ⟨i, e, hi, p⟩ := h
    by_cases hl : i < n
    · rw [List.drop_eq_getElem_cons (by simpa using hl)] at e
      cases e
      obtain ⟨E1, e1, w⟩ := turn i acc E hl p
      simp only [List.getElem_range]
      refine ⟨E1, e1, wp_imp w fun c E2 q => ?_⟩
      cases c with
      | true => exact wp_imp (r := f E2) q fun y E3 q2 => ⟨i + 1, rfl, hl, q2⟩
      | false => exact ⟨i + 1, rfl, hl, q⟩
    · rw [List.drop_eq_nil_of_le (by simp; omega)] at e
      cases e
  · obtain ⟨i, e, hi, p⟩ := h
    have : n ≤ i := by simpa [List.drop_eq_nil_iff] using e.symm
    have : i = n := by omega
    subst this
    exact fin acc E p
end
/-! ## what is looked at, further -/
section
variable {α : Type}
theorem atI_get {xs : List α} {i : Int} {x : α} (h : 0 ≤ i) (e : xs[i.toNat]? = some x) : atI xs i = some x := by rw [atI_pos h]; exact e
theorem atI_map {β : Type} {f : α → β} {xs : List α} {i : Int} {x : α} (h : 0 ≤ i) (e : xs[i.toNat]? = some x) : atI (xs.map f) i = some (f x) := by
  rw [atI_pos h, List.getElem?_map, e]; rfl
theorem asBs_map {f : α → Bool} : ∀ xs : List α, asBs (xs.map fun x => D.bl (f x)) = some (xs.map f)
  | [] => rfl
  | x :: xs => by rw [List.map_cons, asBs, asBs_map xs]; rfl
theorem oAll_map {f : α → Bool} {xs : List α} : oAll [.lst (xs.map fun x => D.bl (f x))] = some (.bl (xs.all f)) := by
  unfold oAll; simp only [asBs_map]; simp [List.all_map]
theorem oAny_map {f : α → Bool} {xs : List α} : oAny [.lst (xs.map fun x => D.bl (f x))] = some (.bl (xs.any f)) := by
  unfold oAny; simp only [asBs_map]; simp [List.any_map]
theorem zipD_map {β : Type} {f : α → D} {h : β → D} (xs : List α) (ys : List β) : zipD (xs.map f) (ys.map h) = (xs.zip ys).map fun p => .tup [f p.1, h p.2] := by
  unfold zipD; rw [List.zip_map, List.map_map]; rfl
end

theorem x_slT {ds : List D} {lo hi : Option Int} : oSl (.tup ds) lo hi = some (.tup (cutL ds lo hi)) := rfl
theorem x_slL {ds : List D} {lo hi : Option Int} : oSl (.lst ds) lo hi = some (.lst (cutL ds lo hi)) := rfl
theorem x_slS {ns : List Int} {lo hi : Option Int} : oSl (.scr ns) lo hi = some (.lst (cutL (ns.map .int) lo hi)) := rfl
theorem cut_hi {α : Type} {xs : List α} {i : Int} (h : 0 ≤ i) : cutL xs none (some i) = xs.take i.toNat := by
  obtain ⟨n, rfl⟩ := Int.eq_ofNat_of_zero_le h
  unfold cutL; rw [HT.sIx_none, HT.sIx_nat]; simp
theorem cut_lo {α : Type} {xs : List α} {i : Int} (h : 0 ≤ i) : cutL xs (some i) none = xs.drop i.toNat := by
  obtain ⟨n, rfl⟩ := Int.eq_ofNat_of_zero_le h
  unfold cutL; rw [HT.sIx_none, HT.sIx_nat]
  by_cases hn : n ≤ xs.length
  · rw [Nat.min_eq_left hn, List.take_of_length_le (by simp)]; rfl
  · rw [Nat.min_eq_right (by omega), List.drop_length, List.take_nil, List.drop_eq_nil_of_le (by simp; omega)]
theorem cut_lohi {α : Type} {xs : List α} {i j : Int} (h : 0 ≤ i) (h2 : 0 ≤ j) : cutL xs (some i) (some j) = (xs.take j.toNat).drop i.toNat := by
  obtain ⟨n, rfl⟩ := Int.eq_ofNat_of_zero_le h
  obtain ⟨m, rfl⟩ := Int.eq_ofNat_of_zero_le h2
  unfold cutL; rw [HT.sIx_nat, HT.sIx_nat, List.drop_take]
  simp only [Int.toNat_natCast]
  by_cases hn : n ≤ xs.length
  · by_cases hm : m ≤ xs.length
    · rw [Nat.min_eq_left hn, Nat.min_eq_left hm]
    · rw [Nat.min_eq_left hn, Nat.min_eq_right (by omega), List.take_of_length_le (by simp), List.take_of_length_le (by simp; omega)]
  · rw [Nat.min_eq_right (by omega : xs.length ≤ n), List.drop_length, List.drop_eq_nil_of_le (by omega : xs.length ≤ n)]; simp
theorem x_itT {ds : List D} : itAny (.tup ds) = some ds := rfl
theorem x_itL {ds : List D} : itAny (.lst ds) = some ds := rfl
theorem x_itS {ns : List Int} : itAny (.scr ns) = some (ns.map .int) := rfl
open Classical in
theorem x_itR1 {j : Int} : itR [.int j] = if B62 j then some (rangeD 0 j.toNat) else none := rfl
open Classical in
theorem x_itR2 {i j : Int} : itR [.int i, .int j] = if B62 i ∧ B62 j then some (rangeD i (j - i).toNat) else none := rfl
theorem x_itZT {a b : List D} : itZ [.tup a, .tup b] = some (zipD a b) := rfl
theorem x_itZL {a b : List D} : itZ [.lst a, .lst b] = some (zipD a b) := rfl
theorem x_itET {a : List D} : itE [.tup a] = some (enumD 0 a) := rfl
theorem x_itEL {a : List D} : itE [.lst a] = some (enumD 0 a) := rfl
theorem x_app {ds : List D} {d : D} : mAppend (.lst ds) [d] = if ds.length < sizeLine then some (.non, .lst (ds ++ [d])) else none := rfl
/-! ## data of a kind, compared -/
structure Enc {α : Type} [DecidableEq α] (f : α → D) (n : Nat) : Prop where
  ex : ∃ g : α → PyData, ∀ a, toPy (f a) = some (g a) ∧ PyData.canLay0 (g a) = true ∧ PyData.depth (g a) ≤ n ∧ ∀ b, PyData.eqv (g a) (g b) = decide (a = b)
theorem toPyL_map {α : Type} {f : α → D} {g : α → PyData} (h : ∀ a, toPy (f a) = some (g a)) : ∀ xs : List α, toPyL (xs.map f) = some (xs.map g)
  | [] => rfl
  | x :: xs => by rw [List.map_cons, toPyL, h x, toPyL_map h xs]; rfl
theorem lay_map {α : Type} {g : α → PyData} (h : ∀ a, PyData.canLay0 (g a) = true) : ∀ xs : List α, PyData.canLayAll0 (xs.map g) = true
  | [] => rfl
  | x :: xs => by rw [List.map_cons, PyData.canLayAll0, h x, lay_map h xs]; rfl
theorem depth_map {α : Type} {g : α → PyData} {n : Nat} (h : ∀ a, PyData.depth (g a) ≤ n) : ∀ xs : List α, PyData.depthAll (xs.map g) ≤ n
  | [] => by simp [PyData.depthAll]
  | x :: xs => by rw [List.map_cons, PyData.depthAll]; exact Nat.max_le.mpr ⟨h x, depth_map h xs⟩
theorem eqv_map {α : Type} [DecidableEq α] {g : α → PyData} (h : ∀ a b, PyData.eqv (g a) (g b) = decide (a = b)) : ∀ xs ys : List α, PyData.eqvAll (xs.map g) (ys.map g) = decide (xs = ys)
  | [], [] => by rfl
  | [], y :: ys => by simp [PyData.eqvAll]
  | x :: xs, [] => by simp [PyData.eqvAll]
  | x :: xs, y :: ys => by rw [List.map_cons, List.map_cons, PyData.eqvAll, h x y, eqv_map h xs ys]; simp
theorem Enc.eq {α : Type} [DecidableEq α] {f : α → D} {n : Nat} (h : Enc f n) (hn : n ≤ 60) (a b : α) : oEq (f a) (f b) = some (.bl (decide (a = b))) := by
  obtain ⟨g, hg⟩ := h.ex
  unfold oEq dEq
  rw [(hg a).1, (hg b).1]
  have ha : SeqAt.shaped (g a) = true := by unfold SeqAt.shaped; rw [(hg a).2.1, decide_eq_true (Nat.le_trans (hg a).2.2.1 (by omega))]; rfl
  have hb : SeqAt.shaped (g b) = true := by unfold SeqAt.shaped; rw [(hg b).2.1, decide_eq_true (Nat.le_trans (hg b).2.2.1 (by omega))]; rfl
  simp only
  rw [if_pos ⟨ha, hb⟩, (hg a).2.2.2 b]; rfl
theorem Enc.ne {α : Type} [DecidableEq α] {f : α → D} {n : Nat} (h : Enc f n) (hn : n ≤ 60) (a b : α) : oNe (f a) (f b) = some (.bl (!decide (a = b))) := by
  have e := h.eq hn a b
  unfold oEq at e
  unfold oNe
  cases z : dEq (f a) (f b) with
  | none => rw [z] at e; cases e
  | some k => rw [z] at e; cases e; rfl
theorem Enc.anyIn {α : Type} [DecidableEq α] {g : α → PyData} {a : α} (h : ∀ a b, PyData.eqv (g a) (g b) = decide (a = b)) : ∀ xs : List α, ((xs.map g).any fun z => PyData.eqv z (g a)) = decide (a ∈ xs)
  | [] => by simp
  | x :: xs => by
    rw [List.map_cons, List.any_cons, Enc.anyIn h xs, h x a]
    by_cases e : x = a
    · subst e; simp
    · simp [e, Ne.symm e]
theorem Enc.inL {α : Type} [DecidableEq α] {f : α → D} {n : Nat} (h : Enc f n) (hn : n ≤ 50) (a : α) (xs : List α) : dIn (f a) (.lst (xs.map f)) = some (decide (a ∈ xs)) := by
  obtain ⟨g, hg⟩ := h.ex
  unfold dIn
  simp only [(hg a).1, toPyL_map (fun a => (hg a).1)]
  have ha : SeqAt.shaped (g a) = true := by unfold SeqAt.shaped; rw [(hg a).2.1, decide_eq_true (Nat.le_trans (hg a).2.2.1 (by omega))]; rfl
  have hb : SeqAt.shaped (.list (xs.map g)) = true := by
    unfold SeqAt.shaped PyData.canLay0 PyData.depth
    rw [lay_map (fun a => (hg a).2.1)]
    have := depth_map (fun a => (hg a).2.2.1) xs
    rw [decide_eq_true (by omega)]; rfl
  rw [if_pos ⟨ha, hb⟩, Enc.anyIn (fun a b => (hg a).2.2.2 b)]
theorem Enc.inT {α : Type} [DecidableEq α] {f : α → D} {n : Nat} (h : Enc f n) (hn : n ≤ 50) (a : α) (xs : List α) : dIn (f a) (.tup (xs.map f)) = some (decide (a ∈ xs)) := h.inL hn a xs
theorem Enc.oInL {α : Type} [DecidableEq α] {f : α → D} {n : Nat} (h : Enc f n) (hn : n ≤ 50) (a : α) (xs : List α) : oIn (f a) (.lst (xs.map f)) = some (.bl (decide (a ∈ xs))) := by unfold oIn; rw [h.inL hn]; rfl
theorem Enc.oInT {α : Type} [DecidableEq α] {f : α → D} {n : Nat} (h : Enc f n) (hn : n ≤ 50) (a : α) (xs : List α) : oIn (f a) (.tup (xs.map f)) = some (.bl (decide (a ∈ xs))) := by unfold oIn; rw [h.inT hn]; rfl
theorem Enc.oNotInL {α : Type} [DecidableEq α] {f : α → D} {n : Nat} (h : Enc f n) (hn : n ≤ 50) (a : α) (xs : List α) : oNotIn (f a) (.lst (xs.map f)) = some (.bl (!decide (a ∈ xs))) := by unfold oNotIn; rw [h.inL hn]; rfl
theorem Enc.oNotInT {α : Type} [DecidableEq α] {f : α → D} {n : Nat} (h : Enc f n) (hn : n ≤ 50) (a : α) (xs : List α) : oNotIn (f a) (.tup (xs.map f)) = some (.bl (!decide (a ∈ xs))) := by unfold oNotIn; rw [h.inT hn]; rfl
theorem Enc.tup {α : Type} [DecidableEq α] {f : α → D} {n : Nat} (h : Enc f n) : Enc (fun xs : List α => D.tup (xs.map f)) (n + 1) := by
  obtain ⟨g, hg⟩ := h.ex
  refine ⟨fun xs => .tuple (xs.map g), fun xs => ⟨?_, ?_, ?_, fun ys => ?_⟩⟩
  · unfold toPy; rw [toPyL_map (fun a => (hg a).1)]; rfl
  · unfold PyData.canLay0; exact lay_map (fun a => (hg a).2.1) xs
  · have := depth_map (fun a => (hg a).2.2.1) xs
    unfold PyData.depth; omega
  · unfold PyData.eqv; exact eqv_map (fun a b => (hg a).2.2.2 b) xs ys
theorem Enc.lst {α : Type} [DecidableEq α] {f : α → D} {n : Nat} (h : Enc f n) : Enc (fun xs : List α => D.lst (xs.map f)) (n + 1) := by
  obtain ⟨g, hg⟩ := h.ex
  refine ⟨fun xs => .list (xs.map g), fun xs => ⟨?_, ?_, ?_, fun ys => ?_⟩⟩
  · unfold toPy; rw [toPyL_map (fun a => (hg a).1)]; rfl
  · unfold PyData.canLay0; exact lay_map (fun a => (hg a).2.1) xs
  · have := depth_map (fun a => (hg a).2.2.1) xs
    unfold PyData.depth; omega
  · unfold PyData.eqv; exact eqv_map (fun a b => (hg a).2.2.2 b) xs ys
theorem Enc.int : Enc D.int 0 := ⟨fun i => .int i, fun a => ⟨rfl, rfl, Nat.le_refl _, fun b => by unfold PyData.eqv; exact rfl⟩⟩
def oD : Option Int → D
  | none => .non
  | some i => .int i
def oPy : Option Int → PyData
  | none => .none
  | some i => .int i
theorem Enc.opt : Enc oD 0 := ⟨oPy, fun a => ⟨by cases a <;> rfl, by cases a <;> rfl, by cases a <;> exact Nat.le_refl _, fun b => by
  cases a <;> cases b <;> simp [oPy, PyData.eqv]
  rename_i a b
  by_cases h : a = b <;> simp [h]⟩⟩
abbrev L3 := Int × Int × Int
def lD (l : L3) : D := .tup [.int l.1, .int l.2.1, .int l.2.2]
theorem Enc.l3 : Enc lD 1 := ⟨fun l => .tuple [.int l.1, .int l.2.1, .int l.2.2], fun a => ⟨rfl, rfl, by simp [PyData.depth, PyData.depthAll], fun b => by
  obtain ⟨a1, a2, a3⟩ := a
  obtain ⟨b1, b2, b3⟩ := b
  simp only [PyData.eqv, PyData.eqvAll, Bool.and_true, Prod.mk.injEq]
  by_cases h1 : a1 = b1 <;> by_cases h2 : a2 = b2 <;> by_cases h3 : a3 = b3 <;> simp [h1, h2, h3]⟩⟩

/-! ## instances -/
def rSF (s : Option Sl) (f : Str) (d : D) : Option Sl := match s with
  | some s => match s.cell with
    | some (.ins c ns ds) => if ns.length < 900 then some (s.put (.ins c (putN f ns) (putD f d ns ds))) else none
    | _ => none
  | none => none
def mkK (Q : D → Nv → Prop) (_ : Tg Q) (n : Nat) (d : D) (E : Nv) : Prop := d = .non ∧ ∃ x, E[n]? = some (.own x) ∧ Q x (E.take n)
def mkK2 (Q : D → Nv → Prop) (_ : Tg Q) (s : Option Sl) (E : Nv) : Prop := ∃ x, s = some (.own x) ∧ Q x E
def eqK (N c : Nat) (fn : Fn) (a b : Ar) (Q : D → Nv → Prop) (_ : Tg (fn, Q)) (E : Nv) (x y : Option D) : Prop := match x, y with
  | some (.ins c1 _ _), some y => c1 = c ∧ eqKind N c y = true ∧ calK fn [a, b] (fun d E2 => run (fun k E3 => Q (.bl k) E3) () (R.some (asB d) E2)) () E (lend E 0 [a, b])
  | _, _ => False
section
variable {E : Nv} {QD : D → Nv → Prop} {QS : Fl → Nv → Prop} {fa fb : Nv → R Ar} {fl : Nv → R (List Ar)} {f : Nv → R D} {i c N : Nat} {fn : Fn} {d : D} {a b : Ar}
theorem x_fSetFld' {n : Str} {g : Tg QS} : run QS g (fSetFld i n f E) = run (fun d E1 => run (fun _ E2 => run (fun x E3 => QS .nx (E3.set i x)) () (R.some (rSF E2[i]? n d) E2)) () (fPk i E1)) () (f E) := by
  rw [x_fSetFld]; unfold run; congr; funext d E1; congr; funext a E2
  unfold setFld rSF
  cases E2[i]? with
  | none => rfl
  | some s =>
    cases z : s.cell with
    | none => simp [z, R.some, wp]
    | some c =>
      cases c <;> simp [z, R.some, wp]
      rename_i ns ds
      by_cases h : ns.length < 900 <;> simp [h]
theorem rSF_bor {k : Nat} {n : Str} {c : Nat} {ns : List Str} {ds : List D} : rSF (some (.bor k (.ins c ns ds))) n d = if ns.length < 900 then some (.bor k (.ins c (putN n ns) (putD n d ns ds))) else none := rfl
theorem rSF_own {n : Str} {c : Nat} {ns : List Str} {ds : List D} : rSF (some (.own (.ins c ns ds))) n d = if ns.length < 900 then some (.own (.ins c (putN n ns) (putD n d ns ds))) else none := rfl
theorem run_resC {fn : Fn} {as : List Ar} {g : Tg QD} : run QD g (resC fn as E) = calK fn as QD () E (lend E 0 as) := by
  unfold run calK
  cases z : lend E 0 as with
  | none => simp [resC, z, wp]
  | some xs =>
    by_cases ho : once as = true
    · rw [wp_resC z ho]; simp [ho]
    · simp [resC, z, ho, wp]
theorem x_fMake {g : Tg QD} : run QD g (fMake c fn fl E) = run (fun as E1 => calK fn (.pk E1.length :: as) (mkK QD () E1.length) () (E1 ++ [.own (.ins c [] [])]) (lend (E1 ++ [.own (.ins c [] [])]) 0 (.pk E1.length :: as))) () (fl E) := by
  unfold run fMake
  rw [wp_bind]; congr; funext as E1
  rw [← run_resC (g := ())]
  unfold run resMk
  cases resC fn (.pk E1.length :: as) (E1 ++ [.own (.ins c [] [])]) with
  | bad => rfl
  | exc _ _ _ => rfl
  | val d E2 =>
    unfold mkK
    simp only [wp]
    cases d with
    | non =>
      simp only
      cases E2[E1.length]? with
      | none => simp [wp]
      | some s => cases s <;> simp [wp]
    | _ => simp [wp]
theorem mkK_s {n : Nat} {g : Tg QD} : mkK QD g n .non E = mkK2 QD () E[n]? (E.take n) := by unfold mkK mkK2; simp
theorem mkK2_s {g : Tg QD} : mkK2 QD g (some (.own d)) E = QD d E := by unfold mkK2; simp
theorem x_fEqI {g : Tg QD} : run QD g (fEqI N c fn fa fb E) = run (fun a E1 => run (fun b E2 => eqK N c fn a b QD () E2 (a.get E2) (b.get E2)) () (fb E1)) () (fa E) := by
  unfold run fEqI
  simp only [wp_bind]
  congr; funext a E1; congr; funext b E2
  unfold resEq eqK
  cases a.get E2 with
  | none => rfl
  | some x =>
    cases b.get E2 with
    | none => cases x <;> rfl
    | some y =>
      cases x <;> try rfl
      rename_i c1 _ _
      simp only
      by_cases h1 : c1 = c
      · by_cases h2 : eqKind N c y = true
        · simp only [h1, h2, and_self, if_true, true_and]
          rw [← run_resC (g := ())]
          unfold run
          rw [wp_bind, wp_nox]
          congr; funext d E3
          cases asB d <;> rfl
        · simp [h1, h2, wp]
      · simp [h1, wp]
theorem eqK_s {g : Tg (fn, QD)} {n1 : List Str} {d1 : List D} {y : D} (h : eqKind N c y = true) : eqK N c fn a b QD g E (some (.ins c n1 d1)) (some y) = calK fn [a, b] (fun d E2 => run (fun k E3 => QD (.bl k) E3) () (R.some (asB d) E2)) () E (lend E 0 [a, b]) := by
  unfold eqK; simp [h]
theorem ek_ins {ns : List Str} {ds : List D} : eqKind N c (.ins c ns ds) = true := by simp [eqKind]
theorem ek_non : eqKind N c .non = true := rfl
theorem ek_bl {b : Bool} : eqKind N c (.bl b) = true := rfl
theorem ek_int {b : Int} : eqKind N c (.int b) = true := rfl
theorem ek_str {b : Str} : eqKind N c (.str b) = true := rfl
theorem ek_tup {b : List D} : eqKind N c (.tup b) = true := rfl
theorem ek_lst {b : List D} : eqKind N c (.lst b) = true := rfl
end
theorem cut_nat {α : Type} {xs : List α} {n : Nat} : cutL xs none (some (n : Int)) = xs.take n := cut_hi (by omega)
theorem take_map' {α β : Type} {f : α → β} {xs : List α} {n : Nat} : (xs.map f).take n = (xs.take n).map f := List.map_take.symm
theorem drop_map' {α β : Type} {f : α → β} {xs : List α} {n : Nat} : (xs.map f).drop n = (xs.drop n).map f := List.map_drop.symm
theorem set_map' {α β : Type} {f : α → β} {xs : List α} {n : Nat} {x : α} {y : β} (h : f x = y) : (xs.map f).set n y = (xs.set n x).map f := by rw [← h, List.map_set]
theorem rep_flat {α : Type} {n : Nat} {x : α} : (List.replicate n [x]).flatten = List.replicate n x := by
  induction n with
  | zero => rfl
  | succ n ih => rw [List.replicate_succ, List.flatten_cons, ih]; rfl
theorem lD0 {l : L3} : oIx (lD l) (.int 0) = some (.int l.1) := rfl
theorem lD1 {l : L3} : oIx (lD l) (.int 1) = some (.int l.2.1) := rfl
theorem lD2 {l : L3} : oIx (lD l) (.int 2) = some (.int l.2.2) := rfl
theorem oD_n : oD none = .non := rfl
theorem oD_s {i : Int} : oD (some i) = .int i := rfl
theorem x_bTup3 {bs : List Bd} {l : L3} {E : Nv} : bTup bs (lD l) E = bAll bs [.int l.1, .int l.2.1, .int l.2.2] E := rfl
theorem itR_int {j : Int} (h0 : 0 ≤ j) (h : j ≤ 1000000) : itR [.int j] = some (rangeD 0 j.toNat) := by
  rw [x_itR1, if_pos]; rw [B62_def]; omega
theorem itR_nat {n : Nat} (h : n ≤ 1000000) : itR [.int (n : Int)] = some (rangeD 0 n) := by rw [itR_int (by omega) (by omega)]; rfl
theorem itR_two {i j : Int} (h0 : 0 ≤ i) (h : i ≤ 1000000) (h1 : 0 ≤ j) (h2 : j ≤ 1000000) : itR [.int i, .int j] = some (rangeD i (j - i).toNat) := by
  rw [x_itR2, if_pos]; rw [B62_def, B62_def]; omega
theorem rTL {x : D} : rIsT (some x) (some [.ty "tuple", .ty "list"]) = (tyName x).bind fun t => some (.bl (subTy t "tuple" || subTy t "list")) := by
  have h2 : (2 : Nat) ≤ sizeLine := sl16 (by omega)
  have ht : tyNames [.ty "tuple", .ty "list"] = some ["tuple", "list"] := by
    unfold tyNames tyNames tyNames
    simp only [tgs_tuple, tgs_list, if_true]
  unfold rIsT
  simp only
  cases tyName x with
  | none => rfl
  | some t => simp [ht, h2]
def nxK (M : Nv → Prop) (_ : Tg M) (fl : Fl) (E : Nv) : Prop := match fl with
  | .nx => M E
  | _ => False
theorem nxK_nx {M : Nv → Prop} {g : Tg M} {E : Nv} : nxK M g .nx E = M E := rfl
/-- what holds between two statements -/
theorem seq_cut {s t : Nv → R Fl} {Q : Fl → Nv → Prop} {E : Nv} (M : Nv → Prop) (h1 : run (nxK M ()) () (s E)) (h2 : ∀ E, M E → run Q () (t E)) : run Q () (fSeq s t E) := by
  rw [x_seq]
  refine wp_imp h1 fun fl E1 q => ?_
  cases fl with
  | nx => exact h2 E1 q
  | _ => exact q.elim
theorem call_byN {fn : Fn} {as : List Sl} {Q P : D → List Sl → Prop} {g : Tg Q} (h : wpN (fn as) P) (k : ∀ d bs, P d bs → Q d bs) : runN Q g (fn as) := by
  unfold runN
  cases z : fn as with
  | new d bs => rw [z] at h; exact k d bs h
  | val _ _ => rw [z] at h; exact h
  | exc _ _ _ => rw [z] at h; exact h
  | bad => rw [z] at h; exact h
end FL

namespace FL
open PySem PySem.Spec PyProof.Rows L2

/-! ## raising an own exception of one field -/
def fRaise1 (c : Nat) (n : Str) (f : Nv → R D) : Nv → R Fl := fun E => (f E).bind fun d E1 => .exc c (some (n, d)) E1
def spI (K : PySem.W.Frag) (n : Str) : Sp := fun vs H Q _ => ∃ (a C : Addr) (v : V), vs = [.ref a, v] ∧ OexC K C ∧ PySem.W.findIn K (.ref C) n = some none ∧ H a = some (exo a C none) ∧
  ∀ dx, H dx = none → dx ≠ a → Q .non (upd (upd H dx (exd dx [(n, v)])) a (exo a C (some dx)))
theorem spI_len {K : PySem.W.Frag} {n : Str} {vs : List V} {H : Hp} {Q : VK} {E : XK} (h : spI K n vs H Q E) : vs.length = 2 := by
  obtain ⟨_, _, _, rfl, _⟩ := h; rfl
theorem init_read {K : PySem.W.Frag} {n : Str} {N : List Str} {vs : List V} {H : Hp} {Q : VK} {E : XK} (h : spI K n vs H Q E) : tOst K n (tVar 0) (tVar 1) { nx := fun _ H' => Q .non H', rt := Q } (L2.start N vs) H := by
  obtain ⟨a, C, v, rfl, T, hno, ha, q⟩ := h
  exact ⟨v, rfl, .ref a, rfl, a, C, rfl, T, hno, .inl ⟨ha, q⟩⟩
section
variable {X : Cx} {g : Gm} {W : WX} {e : Expr} {p pos pos2 : Pos}
theorem passF {X : Cx} : Passes (L2.CX X.prog X.w) X (fun _ _ _ => False) := fun _ _ _ _ _ _ I c => takes0 _ _ (XE.of_call I (fun _ _ _ h => h) c)
theorem oex_heap {H1 : Hp} {a C dx : Addr} {n : Str} {v : V} (ha : H1 a = none) (h1 : H1 dx = none) (h2 : dx ≠ a) :
    upd (del (upd (upd (upd H1 a (exo a C none)) dx (exd dx [(n, v)])) a (exo a C (some dx))) a) dx (.xd [(n, v)]) = upd H1 dx (.xd [(n, v)]) := by
  funext b
  by_cases hb : b = dx
  · rw [hb, upd_same, upd_same]
  · rw [upd_ne hb, upd_ne hb]
    by_cases hba : b = a
    · rw [hba, del_same, ha]
    · rw [del_ne hba, upd_ne hba, upd_ne hb, upd_ne hba]
theorem fs_raise1 {c : Nat} {n x : Str} {f : Nv → R D} {fI : Addr} {k : Nat} {fd : FuncData} {ps : List Str} (hc : X.calm = true) (tk : Takes X W) (T : OexC X.K (g.xcl c)) (iC : PySem.W.findIn X.K (.ref (g.xcl c)) "__init__" = some (some (.ref fI)))
    (tI : PySem.W.typeIn X.K (.ref fI) = some (.type "function")) (hno : PySem.W.findIn X.K (.ref (g.xcl c)) n = some none) (F1 : FnOk X.prog X.w X.K X.mg X.base (L2.CX X.prog X.w) k fI fd ps (spI X.K n)) (hr : Room (k + 1) X.A) (hb : Binds X.K fd ps [])
    (hg : Gl X x) (hm : X.mg x = some (.ref (g.xcl c))) (ha : FE X g W e f) (hdb : (x == ("__debug__" : Str)) = false := by decide)
    (he : starEach (e :: []) X.env = (false, eval e X.env) :: starEach [] X.env := by rfl) (hpl : (backTo pos (starEach [] X.env)).any (·.1) = false := by rfl) :
    FS X g W (.Raise (some (.Call (.Name x p) (e :: []) [] pos)) none pos2) (fRaise1 c n f) :=
  psImp (ps_raise hc tk (pmk_oex T iC tI F1 hr hb .nil passF hg hm (pa_cons ha pa_nil he) hdb he hpl)) fun D σ H ⟨ρ, G, E, F, st, q⟩ => by
    refine bindS st q fun d E1 v F1 H1 st1 s1 r1 q1 => ?_
    refine ⟨by simp, fun a ha => ⟨a, g.xcl c, v, rfl, T, hno, upd_same, fun dx h1 h2 => ?_⟩⟩
    have h1' : H1 dx = none := by rw [upd_ne h2] at h1; exact h1
    refine ⟨rfl, dx, [(n, v)], upd_same, ?_, h1', ?_⟩
    · rw [upd_ne h2, upd_same]
    · rw [oex_heap ha h1' h2]
      have hF := st1.fF h1'
      exact q1 (some dx) σ (upd F1 dx (.xd [(n, v)])) (upd H1 dx (.xd [(n, v)])) (st1.grow h1' _) (Same.new hF) ⟨dx, v, rfl, upd_same, r1.mono (Same.new hF)⟩
end

/-! ## a caught exception's expressions: c its class, fs its field -/
abbrev Xv := Nat → Option (Str × D) → Option D
def tX (g : Gm) (i : Nat) (a : Addr) (cls : Value) (d : Option Addr) (v : Xv) : TE := fun σ H Q => ∃ ρ G E F c fs, StOk g ρ G E F σ H ∧ σ[i]? = some (some (.ref a)) ∧ cls = .ref (g.xcl c) ∧ XRep g F fs d ∧
  ∃ z, v c fs = some z ∧ ∀ u F' H', StOk g ρ G E F' σ H' → Same F F' → Rep g F' z u → Q u H'
def tXs (g : Gm) (i : Nat) (a : Addr) (cls : Value) (d : Option Addr) (v : Nat → Option (Str × D) → Option (List D)) : TA := fun σ H Q => ∃ ρ G E F c fs, StOk g ρ G E F σ H ∧ σ[i]? = some (some (.ref a)) ∧ cls = .ref (g.xcl c) ∧ XRep g F fs d ∧
  ∃ z, v c fs = some z ∧ ∀ u F' H', StOk g ρ G E F' σ H' → Same F F' → RepL g F' z u → Q u H'
def tXb (g : Gm) (i : Nat) (a : Addr) (cls : Value) (d : Option Addr) (v : Nat → Option (Str × D) → Option Bool) : TT := fun σ H Q => ∃ ρ G E F c fs, StOk g ρ G E F σ H ∧ σ[i]? = some (some (.ref a)) ∧ cls = .ref (g.xcl c) ∧ XRep g F fs d ∧
  ∃ z, v c fs = some z ∧ ∀ F' H', StOk g ρ G E F' σ H' → Same F F' → Q z H'
def xC (z : D) : Xv := fun _ _ => some z
def xFld (c0 : Nat) (n : Str) : Xv := fun c fs => if c = c0 then (match fs with
  | some (m, x) => if m = n then some x else none
  | none => none) else none
def xIs (k : Nat → Bool) : Xv := fun c _ => some (.bl (k c))
def xAnd (a b : Xv) : Xv := fun c fs => match a c fs with
  | some (.bl true) => b c fs
  | some (.bl false) => some (.bl false)
  | _ => none
def xB (a : Xv) : Nat → Option (Str × D) → Option Bool := fun c fs => (a c fs).bind asB
def xAndB (a b : Nat → Option (Str × D) → Option Bool) : Nat → Option (Str × D) → Option Bool := fun c fs => match a c fs with
  | some true => b c fs
  | some false => some false
  | none => none
def xIf (t : Nat → Option (Str × D) → Option Bool) (a b : Xv) : Xv := fun c fs => match t c fs with
  | some true => a c fs
  | some false => b c fs
  | none => none
def xNil : Nat → Option (Str × D) → Option (List D) := fun _ _ => some []
def xCons (a : Xv) (b : Nat → Option (Str × D) → Option (List D)) : Nat → Option (Str × D) → Option (List D) := fun c fs => match a c fs, b c fs with
  | some x, some xs => some (x :: xs)
  | _, _ => none
def xTup (a : Nat → Option (Str × D) → Option (List D)) : Xv := fun c fs => match a c fs with
  | some xs => if xs.length ≤ sizeLine then some (.tup xs) else none
  | none => none
def xLst (a : Nat → Option (Str × D) → Option (List D)) : Xv := fun c fs => match a c fs with
  | some xs => if xs.length ≤ sizeLine then some (.lst xs) else none
  | none => none
section
variable {Y : Cx} {g : Gm} {i : Nat} {a : Addr} {cls : Value} {d : Option Addr} {e e2 e3 : Expr} {es : List Expr} {pos : Pos}
theorem sx_c {u : V} (h : PE Y e (tC u)) (z : D) (r : ∀ F, Rep g F z u) : PE Y e (tX g i a cls d (xC z)) := peImp h fun σ H Q ⟨ρ, G, E, F, c, fs, st, hs, hc, hx, z', hz, q⟩ => by
  cases hz
  exact q u F H st (Same.refl _) (r F)
theorem sx_and {v w : Xv} {rest : List Expr} (h1 : PE Y e (tX g i a cls d v)) (h2 : PE Y (.BoolOp .And (e2 :: rest) pos) (tX g i a cls d w)) : PE Y (.BoolOp .And (e :: e2 :: rest) pos) (tX g i a cls d (xAnd v w)) :=
  peImp (pe_and h1 h2) fun σ H Q ⟨ρ, G, E, F, c, fs, st, hs, hc, hx, z, hz, q⟩ => by
    unfold xAnd at hz
    cases hv : v c fs with
    | none => simp [hv] at hz
    | some y =>
      cases y with
      | bl b =>
        refine ⟨ρ, G, E, F, c, fs, st, hs, hc, hx, _, hv, fun u F1 H1 st1 s1 r1 => ?_⟩
        obtain rfl : u = .bl b := r1
        refine ⟨b, rfl, ?_⟩
        cases b with
        | true =>
          rw [if_pos rfl]
          simp only [hv] at hz
          exact ⟨ρ, G, E, F1, c, fs, st1, hs, hc, hx.mono s1, z, hz, fun u F2 H2 st2 s2 r2 => q u F2 H2 st2 (s1.trans s2) r2⟩
        | false =>
          rw [if_neg Bool.false_ne_true]
          simp only [hv] at hz
          cases hz
          exact q _ F1 H1 st1 s1 rfl
      | _ => simp [hv] at hz
theorem sb_val {v : Xv} (h : PT Y e (tB (tX g i a cls d v))) : PT Y e (tXb g i a cls d (xB v)) := ptImp h fun σ H Q ⟨ρ, G, E, F, c, fs, st, hs, hc, hx, z, hz, q⟩ => by
  unfold xB at hz
  cases hv : v c fs with
  | none => simp [hv] at hz
  | some y =>
    refine ⟨ρ, G, E, F, c, fs, st, hs, hc, hx, _, hv, fun u F1 H1 st1 s1 r1 => ?_⟩
    cases y with
    | bl b =>
      obtain rfl : u = .bl b := r1
      simp only [hv, Option.bind_some, asB, Option.some.injEq] at hz
      subst hz
      exact ⟨_, rfl, q F1 H1 st1 s1⟩
    | _ => simp [hv, asB] at hz
theorem sw_and {v w : Nat → Option (Str × D) → Option Bool} {rest : List Expr} (h1 : PT Y e (tXb g i a cls d v)) (h2 : PW Y (.BoolOp .And (e2 :: rest) pos) (tXb g i a cls d w)) : PW Y (.BoolOp .And (e :: e2 :: rest) pos) (tXb g i a cls d (xAndB v w)) :=
  pwImp (pw_and h1 h2) fun σ H Q ⟨ρ, G, E, F, c, fs, st, hs, hc, hx, z, hz, q⟩ => by
    unfold xAndB at hz
    cases hv : v c fs with
    | none => simp [hv] at hz
    | some b =>
      refine ⟨ρ, G, E, F, c, fs, st, hs, hc, hx, _, hv, fun F1 H1 st1 s1 => ?_⟩
      cases b with
      | true =>
        rw [if_pos rfl]
        simp only [hv] at hz
        exact ⟨ρ, G, E, F1, c, fs, st1, hs, hc, hx.mono s1, z, hz, fun F2 H2 st2 s2 => q F2 H2 st2 (s1.trans s2)⟩
      | false =>
        rw [if_neg Bool.false_ne_true]
        simp only [hv] at hz
        cases hz
        exact q F1 H1 st1 s1
theorem sx_if {t : Nat → Option (Str × D) → Option Bool} {v w : Xv} (ht : PT Y e (tXb g i a cls d t)) (h1 : PE Y e2 (tX g i a cls d v)) (h2 : PE Y e3 (tX g i a cls d w)) : PE Y (.IfExp e e2 e3 pos) (tX g i a cls d (xIf t v w)) :=
  peImp (pe_ifExp ht h1 h2) fun σ H Q ⟨ρ, G, E, F, c, fs, st, hs, hc, hx, z, hz, q⟩ => by
    unfold xIf at hz
    cases hv : t c fs with
    | none => simp [hv] at hz
    | some b =>
      refine ⟨ρ, G, E, F, c, fs, st, hs, hc, hx, _, hv, fun F1 H1 st1 s1 => ?_⟩
      simp only [hv] at hz
      cases b with
      | true =>
        rw [if_pos rfl]
        exact ⟨ρ, G, E, F1, c, fs, st1, hs, hc, hx.mono s1, z, hz, fun u F2 H2 st2 s2 r2 => q u F2 H2 st2 (s1.trans s2) r2⟩
      | false =>
        rw [if_neg Bool.false_ne_true]
        exact ⟨ρ, G, E, F1, c, fs, st1, hs, hc, hx.mono s1, z, hz, fun u F2 H2 st2 s2 r2 => q u F2 H2 st2 (s1.trans s2) r2⟩
theorem sxs_nil : PA Y [] (tXs g i a cls d xNil) := paImp pa_nil fun σ H Q ⟨ρ, G, E, F, c, fs, st, hs, hc, hx, z, hz, q⟩ => by
  cases hz
  exact q [] F H st (Same.refl _) rfl
theorem sxs_cons {v : Xv} {w : Nat → Option (Str × D) → Option (List D)} (h : PE Y e (tX g i a cls d v)) (k : PA Y es (tXs g i a cls d w)) (hs : starEach (e :: es) Y.env = (false, eval e Y.env) :: starEach es Y.env := by rfl) :
    PA Y (e :: es) (tXs g i a cls d (xCons v w)) := paImp (pa_cons h k hs) fun σ H Q ⟨ρ, G, E, F, c, fs, st, hs, hc, hx, z, hz, q⟩ => by
  unfold xCons at hz
  cases hv : v c fs with
  | none => simp [hv] at hz
  | some y =>
    cases hw : w c fs with
    | none => simp [hv, hw] at hz
    | some ys =>
      simp only [hv, hw, Option.some.injEq] at hz
      subst hz
      refine ⟨ρ, G, E, F, c, fs, st, hs, hc, hx, _, hv, fun u F1 H1 st1 s1 r1 => ?_⟩
      exact ⟨ρ, G, E, F1, c, fs, st1, hs, hc, hx.mono s1, _, hw, fun us F2 H2 st2 s2 r2 => q (u :: us) F2 H2 st2 (s1.trans s2) ⟨u, us, rfl, r1.mono s2, r2⟩⟩
theorem sx_tup {w : Nat → Option (Str × D) → Option (List D)} {x1} (h : PA Y es (tXs g i a cls d w)) : PE Y (.Tuple es x1 pos) (tX g i a cls d (xTup w)) := peImp (pe_tup h) fun σ H Q ⟨ρ, G, E, F, c, fs, st, hs, hc, hx, z, hz, q⟩ => by
  unfold xTup at hz
  cases hw : w c fs with
  | none => simp [hw] at hz
  | some ys =>
    simp only [hw] at hz
    obtain ⟨hl, rfl⟩ := iteSome hz
    refine ⟨ρ, G, E, F, c, fs, st, hs, hc, hx, _, hw, fun us F1 H1 st1 s1 r1 => ⟨by rw [← r1.length]; exact hl, fun p hp => ?_⟩⟩
    have hf := st1.fF hp
    exact q _ _ _ (st1.grow hp _) (s1.trans (Same.new hf)) ⟨p, us, rfl, .inl (.inl upd_same), r1.mono (Same.new hf)⟩
theorem sx_lst {w : Nat → Option (Str × D) → Option (List D)} (h : PA Y es (tXs g i a cls d w)) : PE Y (.List es pos) (tX g i a cls d (xLst w)) := peImp (pe_lst h) fun σ H Q ⟨ρ, G, E, F, c, fs, st, hs, hc, hx, z, hz, q⟩ => by
  unfold xLst at hz
  cases hw : w c fs with
  | none => simp [hw] at hz
  | some ys =>
    simp only [hw] at hz
    obtain ⟨hl, rfl⟩ := iteSome hz
    refine ⟨ρ, G, E, F, c, fs, st, hs, hc, hx, _, hw, fun us F1 H1 st1 s1 r1 => ⟨by rw [← r1.length]; exact hl, fun p hp => ?_⟩⟩
    have hf := st1.fF hp
    exact q _ _ _ (st1.grow hp _) (s1.trans (Same.new hf)) ⟨p, us, rfl, upd_same, r1.mono (Same.new hf)⟩
end
section
variable {X : Cx} {g : Gm} {i : Nat} {a : Addr} {oe : Obj} {cls : Value} {d : Option Addr} {pn : List (Addr × Obj)} {e e2 : Expr} {pos : Pos} {n : Str}
/-- e.f -/
theorem sx_fld {c0 : Nat} (T : XfC X.K (g.xcl c0)) (hno : PySem.W.findIn X.K (.ref (g.xcl c0)) n = some none) (hz : Zc cls d oe) (hf : ∃ vs, oe.data = .fields vs) (he : PE (X.suite a ((a, oe) :: pn)) e (tVar i))
    (hb : attributeBase e n X.env (eval e X.env) = eval e X.env := by rfl) : PE (X.suite a ((a, oe) :: pn)) (.Attribute e n pos) (tX g i a cls d (xFld c0 n)) :=
  peImp (pe_xf T hno hz hf he hb) fun σ H Q ⟨ρ, G, E, F, c, fs, st, hs, hc, hx, z, hz, q⟩ => by
    unfold xFld at hz
    by_cases hcc : c = c0
    · subst hcc
      rw [if_pos rfl] at hz
      cases fs with
      | none => cases hz
      | some p =>
        obtain ⟨m, x⟩ := p
        simp only at hz
        by_cases hm : m = n
        · subst hm
          rw [if_pos rfl] at hz
          cases hz
          obtain ⟨dd, v, rfl, hd, r⟩ := hx
          exact ⟨.ref a, hs, rfl, hc, dd, [(m, v)], v, rfl, st.sf _ _ hd, by simp [List.lookup], q v F H st (Same.refl _) r⟩
        · rw [if_neg hm] at hz; cases hz
    · rw [if_neg hcc] at hz; cases hz
/-- what the class of an exception must say for isinstance -/
structure ExcT (K : PySem.W.Frag) (C : Addr) : Prop where
  cl : (PySem.W.clsIn K C).isSome = true
  ga : PySem.W.findIn K (.ref C) "__getattribute__" = some (some (.builtin "BaseException.__getattribute__"))
  gt : PySem.W.findIn K (.ref C) "__getattr__" = some none
  sb : PySem.W.subIn K (.ref C) (.type "BaseException") = some true
  ca : PySem.W.findIn K (.ref C) "__class__" = some (some (.builtin "object.__class__"))
  cn : PySem.W.specialIn K (.builtin "object.__class__") "__get__" = some (some (.builtin "getset_descriptor.__get__"))
  ct : PySem.W.takesIn K (.builtin "object.__class__") = some true
  cm : PySem.W.mroIn K C (.type "object") = some true
def rIsX (K : PySem.W.Frag) (a C : Addr) (d : Option Addr) : List V → Hp → VK → Prop := fun xs H Q => ∃ (c : V) (cv : Value) (b : Bool), xs = [.ref a, c] ∧ (∀ u, RelV c u → u = cv) ∧ PySem.W.kitOne K (.ref C) cv = some b ∧ (∀ dd, d = some dd → ∃ fs, H dd = some (.xd fs)) ∧ Q (.bl b) H
theorem call_isX {C : Addr} (T : ExcT X.K C) (hz : Zc (.ref C) d oe) (hf : ∃ vs, oe.data = .fields vs) : CallR (X.suite a ((a, oe) :: pn)) (.builtin "isinstance") (rIsX X.K a C d) := by
  rintro pins s σ H xs us Q I r ⟨c, cv, b, rfl, hcv, hk, hd, q⟩
  obtain ⟨ua, ut, rfl, ra, rt⟩ : ∃ ua ut, us = [ua, ut] ∧ RelV (.ref a) ua ∧ RelV c ut := by
    cases r with
    | cons h1 h2 => cases h2 with
      | cons h3 h4 => cases h4; exact ⟨_, _, rfl, h1, h3⟩
  cases ra
  have et := hcv ut rt
  subst et
  have mem : (a, oe) ∈ ((a, oe) :: pn) ++ pins := List.mem_append_left _ (List.mem_cons_self ..)
  have hget := (I.pin (a, oe) mem).1
  obtain ⟨vs, hv⟩ := hf
  have nc : PySem.W.notCls oe = true := by unfold PySem.W.notCls; rw [hv] <;> rfl
  obtain ⟨od, J⟩ : ∃ od, PySem.W.InstAt s.heap a oe C od := by
    cases d with
    | none => exact ⟨none, hget, hz.1, nc, by rw [hz.2]; trivial⟩
    | some dd =>
      obtain ⟨fs, hdd⟩ := hd dd rfl
      obtain ⟨mA, hns, _⟩ := I.hok dd _ hdd
      obtain ⟨od, ho, _⟩ := lookIn_ns hns
      exact ⟨some od, hget, hz.1, nc, by rw [hz.2]; exact ho⟩
  exact PySem.W.kia_one (PySem.W.kitx_exc T.cl T.ga T.gt T.sb T.ca T.cn T.ct T.cm) I.kIn J hk (fun z => nomatch z) fun tk => ⟨.bl b, H, I.kept (t' := tk) fun _ _ z => z, rfl, q⟩
theorem sx_isi {x : Str} {p : Pos} {k : Nat → Bool} {cv : V} {cu : Value} (T : ∀ c, ExcT X.K (g.xcl c)) (hk : ∀ c, PySem.W.kitOne X.K (.ref (g.xcl c)) cu = some (k c)) (hcu : ∀ u, RelV cv u → u = cu) (hz : Zc cls d oe) (hf : ∃ vs, oe.data = .fields vs)
    (he : PE (X.suite a ((a, oe) :: pn)) e (tVar i)) (he2 : PE (X.suite a ((a, oe) :: pn)) e2 (tC cv)) (hg : Gl (X.suite a ((a, oe) :: pn)) x) (hm : X.mg x = none) (hv : bootBuiltins x = some (.builtin "isinstance"))
    (hn : x ≠ "__name__" := by decide) (hdb : (x == ("__debug__" : Str)) = false := by decide) 
    (h1 : starEach (e :: e2 :: []) X.env = (false, eval e X.env) :: starEach (e2 :: []) X.env := by rfl) (h2 : starEach (e2 :: []) X.env = (false, eval e2 X.env) :: starEach [] X.env := by rfl)
    (hpl : (backTo pos (starEach (e2 :: []) X.env)).any (·.1) = false := by rfl) : PE (X.suite a ((a, oe) :: pn)) (.Call (.Name x p) (e :: e2 :: []) [] pos) (tX g i a cls d (xIs k)) := by
  refine ⟨fun pins s σ H Q I h => ?_⟩
  obtain ⟨ρ, G, E, F, c, fs, st, hs, hc, hx, z, hz', q⟩ := h
  have hz2 : Zc (.ref (g.xcl c)) d oe := by rw [← hc]; exact hz
  refine (pe_callB (X := X.suite a ((a, oe) :: pn)) (call_isX (pn := pn) (T c) hz2 hf) hg hm hv (pa_cons he (pa_cons he2 pa_nil h2) h1) hn hdb h1 hpl).run pins s σ H Q I ?_
  refine ⟨.ref a, hs, cv, cu, k c, rfl, hcu, hk c, fun dd hd => ?_, ?_⟩
  · subst hd
    cases fs with
    | none => cases (show some dd = none from hx)
    | some p =>
      obtain ⟨m, y⟩ := p
      obtain ⟨a', v', e', hF, _⟩ := hx
      cases e'
      exact ⟨_, st.sf _ _ hF⟩
  · cases hz'
    exact q _ F H st (Same.refl _) rfl
end

/-! ## try: .. except X as n: one statement -/
def hRet (v : Xv) : Nat → Option (Str × D) → Nv → R Fl := fun c fs E => match v c fs with
  | some d => .val (.rt d) E
  | none => .bad
def hSet (j : Nat) (v : Xv) : Nat → Option (Str × D) → Nv → R Fl := fun c fs E => match v c fs with
  | some d => .val .nx (E.set j (.fz d))
  | none => .bad
def fTry1 (i : Nat) (tst : Nat → Bool) (body : Nv → R Fl) (h : Nat → Option (Str × D) → Nv → R Fl) : Nv → R Fl := fun E => match body E with
  | .exc c fs E1 => if tst c = true then (if i < E1.length then h c fs (E1.set i .no) else .bad) else .exc c fs E1
  | r => r
/-- what the suite may leave -/
def tH (g : Gm) (i : Nat) (a : Addr) (cls : Value) (d : Option Addr) (h : Nat → Option (Str × D) → Nv → R Fl) : TS := fun D σ H => ∃ ρ G E F c fs, StOk g ρ G E F σ H ∧ σ[i]? = some (some (.ref a)) ∧ cls = .ref (g.xcl c) ∧ XRep g F fs d ∧
  postS g W0 ρ G F D (h c fs E)
/-- a handler's end: it returns, or goes on with slot i forgotten -/
def Tame (i : Nat) (h : Nat → Option (Str × D) → Nv → R Fl) : Prop := ∀ (c : Nat) (fs : Option (Str × D)) (E : Nv), (∃ d E2, h c fs (E.set i .no) = .val (.rt d) E2) ∨ (∃ E2, h c fs (E.set i .no) = .val .nx E2 ∧ (E2[i]? = some .no ∨ E2[i]? = none)) ∨ h c fs (E.set i .no) = .bad
theorem tame_ret {i : Nat} {v : Xv} : Tame i (hRet v) := fun c fs E => by
  unfold hRet
  cases v c fs with
  | none => exact .inr (.inr rfl)
  | some d => exact .inl ⟨d, _, rfl⟩
theorem tame_set {i j : Nat} {v : Xv} (hij : j ≠ i) : Tame i (hSet j v) := fun c fs E => by
  unfold hSet
  cases v c fs with
  | none => exact .inr (.inr rfl)
  | some d =>
    refine .inr (.inl ⟨_, rfl, ?_⟩)
    rw [List.getElem?_set_ne hij]
    by_cases hi : i < E.length
    · exact .inl (List.getElem?_set_self hi)
    · exact .inr (by rw [List.getElem?_eq_none]; simpa using hi)
section
variable {X : Cx} {g : Gm} {W : WX} {x n : Str} {c : Value} {i : Nat} {body suite : List Stmt} {b₀ : Stmt} {np pos pos' : Pos}
theorem fs_try1 {tst : Nat → Bool} {sb : Nv → R Fl} {h : Nat → Option (Str × D) → Nv → R Fl} (hs : X.stack = X.env :: X.outer) (hf : X.env.frame = some X.env.locals) (hN : X.N.Nodup) (hi : X.N[i]? = some n) (hln : X.env.kindOf n = some .local) (hc : Names X x c) (tk : Takes X W)
    (ht : ∀ k, PySem.W.exmOne X.K (.ref (g.xcl k)) c = some (tst k)) (tame : Tame i h)
    (hb : ∀ (W' : WX) (pn : List (Addr × Obj)) (xe : Value → Shared → Prop), Takes (X.tr pn xe) W' → PassesOwn (model X.prog X.w) X.A X.env xe → FSs (X.tr pn xe) g W' body sb)
    (hsu : ∀ (a : Addr) (oe : Obj) (cls : Value) (d : Option Addr) (pn : List (Addr × Obj)), Zc cls d oe → (∃ vs, oe.data = .fields vs) → PSs (X.suite a ((a, oe) :: pn)) (b₀ :: suite) (tH g i a cls d h)) :
    FS X g W (.Try body [.ExceptHandler (some (.Name x np)) (some n) (b₀ :: suite) pos'] [] [] pos) (fTry1 i tst sb h) :=
  psImp (ps_try_as (tb := fun W' => tS g W' sb) (ts := fun a cls d => tH g i a cls d h) (Wout := W) hs hf hN hi hln hc tk (fun W' pn xe t po => hb W' pn xe t po) (fun a oe cls d pn z f => hsu a oe cls d pn z f)) fun D σ H ⟨ρ, G, E, F, st, q⟩ => by
    refine ⟨ρ, G, E, F, st, ?_⟩
    revert q
    unfold fTry1
    cases sb E with
    | bad => exact fun q => q
    | val fl E1 => cases fl <;> exact fun q => q
    | exc k fs E1 =>
      intro q dx σ' F' H' st' ss xr
      refine ⟨tst k, ht k, fun hk a hna => ?_, fun hk => ?_⟩
      · simp only [hk, if_true] at q
        have hil : i < E1.length := by
          by_cases hil : i < E1.length
          · exact hil
          · rw [if_neg hil] at q; exact q.elim
        rw [if_pos hil] at q
        have st2 : StOk g ρ G (E1.set i .no) F' (σ'.set i (some (.ref a))) H' := st'.reslot (by simp [st'.len]) fun j s e => by
          by_cases hj : j = i
          · subst hj
            rw [List.getElem?_set_self (by simpa using (List.getElem?_eq_some_iff.mp e).1)] at e
            exact .inr (.inl (Option.some.inj e).symm)
          · rw [List.getElem?_set_ne (Ne.symm hj)] at e
            exact .inl ⟨e, List.getElem?_set_ne (Ne.symm hj)⟩
        have hi' : i < σ'.length := by
          rw [← st'.len]; exact hil
        refine ⟨ρ, G, E1.set i .no, F', k, fs, st2, List.getElem?_set_self hi', rfl, xr, ?_⟩
        have q2 := postS.mono ss q
        rcases tame k fs E1 with ⟨d, E2, e⟩ | ⟨E2, e, no⟩ | e
        · rw [e] at q2 ⊢
          exact q2
        · rw [e] at q2 ⊢
          intro σ2 F2 H2 st3 s3
          refine q2 (σ2.set i none) F2 H2 (st3.reslot (by rw [List.length_set]; exact st3.len) fun j s e' => ?_) s3
          by_cases hj : j = i
          · subst hj
            rcases no with no | no
            · rw [no] at e'; exact .inr (.inl (Option.some.inj e').symm)
            · rw [no] at e'; cases e'
          · exact .inl ⟨e', List.getElem?_set_ne (Ne.symm hj)⟩
        · rw [e] at q2
          exact q2.elim
      · simp only [hk, if_false, Bool.false_eq_true] at q
        exact q dx σ' F' H' st' ss xr
theorem ss_ret {a : Addr} {oe : Obj} {cls : Value} {d : Option Addr} {pn : List (Addr × Obj)} {e : Expr} {v : Xv} (h : PE (X.suite a ((a, oe) :: pn)) e (tX g i a cls d v)) : PSs (X.suite a ((a, oe) :: pn)) [.Return (some e) pos] (tH g i a cls d (hRet v)) :=
  pssImp (pss_one (ps_ret h)) fun D σ H ⟨ρ, G, E, F, c, fs, st, hs, hc, hx, q⟩ => by
    unfold hRet at q
    cases hv : v c fs with
    | none => simp only [hv] at q; exact q.elim
    | some z =>
      simp only [hv] at q
      exact ⟨ρ, G, E, F, c, fs, st, hs, hc, hx, z, hv, fun u F' H' st' s r => q u σ F' H' st' s r⟩
theorem ss_set {j : Nat} {st0 : Stmt} {a : Addr} {oe : Obj} {cls : Value} {d : Option Addr} {pn : List (Addr × Obj)} {v : Xv} (h : PS (X.suite a ((a, oe) :: pn)) st0 (tAsg (tX g i a cls d v) (gName j))) : PSs (X.suite a ((a, oe) :: pn)) [st0] (tH g i a cls d (hSet j v)) :=
  pssImp (pss_one h) fun D σ H ⟨ρ, G, E, F, c, fs, st, hs, hc, hx, q⟩ => by
    unfold hSet at q
    cases hv : v c fs with
    | none => simp only [hv] at q; exact q.elim
    | some z =>
      simp only [hv] at q
      exact ⟨ρ, G, E, F, c, fs, st, hs, hc, hx, z, hv, fun u F' H' st' s r => q _ F' H' (st'.store r) s⟩
end
end FL

namespace FL
open PySem PySem.Spec PyProof.Rows L2

/-! ## a comprehension of two fors -/
def lc2L (b : Bd) (t : Nv → R Bool) (fi1 : Nv → R (List D)) (b1 : Bd) (t1 : Nv → R Bool) (f : Nv → R D) (vs vs1 : List Nat) : List D → List D → Nv → R (List D)
  | [], acc, E => .val acc E
  | d :: ds, acc, E => match b d E with
    | none => .bad
    | some E1 => (t E1).nox.bind fun k E2 => if k = true then (fi1 E2).nox.bind fun ds1 E3 => (lcL b1 t1 f vs1 ds1 acc (wipeE E3 vs1)).bind fun acc' E4 => lc2L b t fi1 b1 t1 f vs vs1 ds acc' (wipeE E4 vs)
      else lc2L b t fi1 b1 t1 f vs vs1 ds acc (wipeE E2 vs)
def fLc2 (fi : Nv → R (List D)) (b : Bd) (t : Nv → R Bool) (fi1 : Nv → R (List D)) (b1 : Bd) (t1 : Nv → R Bool) (f : Nv → R D) (vs vs1 : List Nat) : Nv → R D := fun E => (fi E).bind fun ds E1 =>
  (lc2L b t fi1 b1 t1 f vs vs1 ds [] (wipeE E1 vs)).bind fun xs E2 => .val (.lst xs) (restoreE E1 E2 vs)
theorem wipe_sub {σ : L2.St} {vs vs1 : List Nat} (h : ∀ i ∈ vs1, i ∈ vs) : wipe (wipe σ vs1) vs = wipe σ vs := wipe_ext (wipe_length _ _) fun i hi => wipe_other fun k => hi (h i k)
theorem noxI {γ : Type} {g : Gm} {ρ : Nat → Addr} {G F H : Hp} {E : Nv} {σ : L2.St} {f : Nv → R (List D)} {k : List D → Nv → R γ} {Q1 : It → Hp → Prop} (P : R γ → Prop) (h : P ((f E).nox.bind k)) (hb : ¬ P .bad) (st : StOk g ρ G E F σ H)
    (cont : ∀ a E1 J F1 H1, StOk g ρ G E1 F1 σ H1 → Same F F1 → Walks g F1 J a → P (k a E1) → Q1 J H1) : tI g W0 f σ H Q1 := by
  refine ⟨ρ, G, E, F, st, ?_⟩
  revert h
  cases f E with
  | val a E1 => exact fun h J F1 H1 st1 s1 w1 => cont a E1 J F1 H1 st1 s1 w1 h
  | exc c fs E' => exact fun h => absurd h hb
  | bad => exact fun h => absurd h hb
section
variable {X : Cx} {g : Gm} {W : WX} {e : Expr} {st : Stmt}
theorem le_lc2 {fi fi1 : Nv → R (List D)} {b b1 : Bd} {tf tf1 : Nv → R Bool} {f : Nv → R D} {vs vs1 : List Nat} {σ : L2.St} {H : Hp} {Q : VK} (hv : ∀ i ∈ vs1, i ∈ vs) (h : tN g W (fLc2 fi b tf fi1 b1 tf1 f vs vs1) σ H Q) :
    tLc2 (tI g W fi) (tGv g vs b) (tG g W0 relB tf) (tI g W0 fi1) (tGv g vs1 b1) (tG g W0 relB tf1) (tG g W0 (relD g) f) vs vs1 σ H Q := by
  obtain ⟨ρ, G, E, F, st, q⟩ := h
  refine ⟨ρ, G, E, F, st, ?_⟩
  unfold fLc2 at q
  revert q
  cases fi E with
  | exc c fs E' => exact fun q => q
  | bad => exact fun q => q
  | val ds E1 =>
    intro q J F1 H1 st1 s1 w D hD
    let fin : List FL.D → Nv → R FL.D := fun xs E2 => .val (.lst xs) (restoreE E1 E2 vs)
    let out : List FL.D → List FL.D → Nv → R (List FL.D) := lc2L b tf fi1 b1 tf1 f vs vs1
    have q : postN g W ρ G F σ Q ((out ds [] (wipeE E1 vs)).bind fin) := q
    have gD := st1.fG hD
    refine ⟨fun i m H => i ≤ ds.length ∧ m = ds.length - i ∧ ∃ F2 E2 acc xs, StOk g ρ (upd G D (.lst xs)) E2 F2 (wipe σ vs) H ∧ RepL g F2 acc xs ∧ Same F1 F2 ∧
      postN g W ρ G F2 σ Q ((out (ds.drop i) acc E2).bind fin), ⟨_, Nat.zero_le _, rfl, F1, wipeE E1 vs, [], [], (st1.temp hD _).wiped vs, rfl, Same.refl _, postN.mono s1 (by simpa using q)⟩, ?_⟩
    rintro i m H2 ⟨hi, rfl, F2, E2, acc, xs, st2, ra, s2, q2⟩
    by_cases hlt : i < ds.length
    · let Nx : Hp → Prop := fun H' => i + 1 ≤ ds.length ∧ ∃ F2 E2 acc xs, StOk g ρ (upd G D (.lst xs)) E2 F2 (wipe σ vs) H' ∧ RepL g F2 acc xs ∧ Same F1 F2 ∧
        postN g W ρ G F2 σ Q ((out (ds.drop (i + 1)) acc E2).bind fin)
      refine .inr ⟨w.goes i H2 F2 s2 st2.sf hlt, Nx, fun H' ⟨a, r⟩ => ⟨ds.length - (i + 1), by omega, a, rfl, r⟩, fun x H3 y => ?_⟩
      obtain ⟨d, F3, hd, gr, r⟩ := w.yields i H2 F2 x H3 s2 st2.sf hlt y
      have hdrop : ds.drop i = d :: ds.drop (i + 1) := by
        rw [List.drop_eq_getElem_cons hlt]
        rw [List.getElem?_eq_getElem hlt] at hd
        rw [Option.some.inj hd]
      rw [hdrop] at q2
      change postN g W ρ G F2 σ Q ((lc2L b tf fi1 b1 tf1 f vs vs1 (d :: ds.drop (i + 1)) acc E2).bind fin) at q2
      unfold lc2L at q2
      cases z : b d E2 with
      | none => simp only [z] at q2; exact q2.elim
      | some E3 =>
        simp only [z] at q2
        refine ⟨ρ, _, E2, F3, d, gr.2 _ _ _ _ st2, r, E3, z, fun σ4 F4 H4 st4 s4 w4 => ⟨w4.trans wipe_wipe, ?_⟩⟩
        rw [wipe_wipe] at w4
        have s14 : Same F2 F4 := gr.1.trans s4
        refine noxE (P := fun r : R (List FL.D) => postN g W ρ G F2 σ Q (r.bind fin)) q2 (fun h => h) st4 fun k E5 c F5 H5 st5 s5 r5 q5 => ?_
        obtain rfl : k = c := r5
        cases k with
        | false =>
          rw [if_neg Bool.false_ne_true] at q5 ⊢
          exact ⟨hlt, F5, _, acc, xs, st5.wiped2 vs w4, ra.mono (s14.trans s5), (s2.trans s14).trans s5, postN.mono (s14.trans s5) q5⟩
        | true =>
          rw [if_pos rfl] at q5 ⊢
          refine noxI (P := fun r : R (List FL.D) => postN g W ρ G F2 σ Q (r.bind fin)) q5 (fun h => h) st5 fun ds1 E6 J1 F6 H6 st6 s6 w6 q6 => ?_
          have s16 := (s14.trans s5).trans s6
          let nxt : List FL.D → Nv → R (List FL.D) := fun acc' E4 => out (ds.drop (i + 1)) acc' (wipeE E4 vs)
          refine ⟨fun j k H => j ≤ ds1.length ∧ k = ds1.length - j ∧ ∃ F7 E7 acc7 xs7, StOk g ρ (upd G D (.lst xs7)) E7 F7 (wipe σ4 vs1) H ∧ RepL g F7 acc7 xs7 ∧ Same F6 F7 ∧
            postN g W ρ G F7 σ Q (((lcL b1 tf1 f vs1 (ds1.drop j) acc7 E7).bind nxt).bind fin), ⟨_, Nat.zero_le _, rfl, F6, wipeE E6 vs1, acc, xs, st6.wiped vs1, ra.mono s16, Same.refl _, postN.mono s16 (by simpa using q6)⟩, ?_⟩
          rintro j k H7 ⟨hj, rfl, F7, E7, acc7, xs7, st7, ra7, s7, q7⟩
          by_cases hlt1 : j < ds1.length
          · refine .inr ⟨w6.goes j H7 F7 s7 st7.sf hlt1, fun H' => j + 1 ≤ ds1.length ∧ ∃ F7 E7 acc7 xs7, StOk g ρ (upd G D (.lst xs7)) E7 F7 (wipe σ4 vs1) H' ∧ RepL g F7 acc7 xs7 ∧ Same F6 F7 ∧
              postN g W ρ G F7 σ Q (((lcL b1 tf1 f vs1 (ds1.drop (j + 1)) acc7 E7).bind nxt).bind fin), fun H' ⟨a, r⟩ => ⟨ds1.length - (j + 1), by omega, a, rfl, r⟩, fun x1 H8 y1 => ?_⟩
            obtain ⟨d1, F8, hd1, gr1, r1⟩ := w6.yields j H7 F7 x1 H8 s7 st7.sf hlt1 y1
            have hdrop1 : ds1.drop j = d1 :: ds1.drop (j + 1) := by
              rw [List.drop_eq_getElem_cons hlt1]
              rw [List.getElem?_eq_getElem hlt1] at hd1
              rw [Option.some.inj hd1]
            rw [hdrop1] at q7
            unfold lcL at q7
            cases z1 : b1 d1 E7 with
            | none => simp only [z1] at q7; exact q7.elim
            | some E8 =>
              simp only [z1] at q7
              refine ⟨ρ, _, E7, F8, d1, gr1.2 _ _ _ _ st7, r1, E8, z1, fun σ9 F9 H9 st9 s9 w9 => ⟨w9.trans wipe_wipe, ?_⟩⟩
              rw [wipe_wipe] at w9
              have s79 : Same F7 F9 := gr1.1.trans s9
              refine noxE (P := fun r : R (List FL.D) => postN g W ρ G F7 σ Q ((r.bind nxt).bind fin)) q7 (fun h => h) st9 fun k E5 c F5 H5 st5 s5 r5 q5 => ?_
              obtain rfl : k = c := r5
              cases k with
              | false =>
                rw [if_neg Bool.false_ne_true] at q5 ⊢
                exact ⟨hlt1, F5, _, acc7, xs7, st5.wiped2 vs1 w9, ra7.mono (s79.trans s5), (s7.trans s79).trans s5, postN.mono (s79.trans s5) q5⟩
              | true =>
                rw [if_pos rfl] at q5 ⊢
                refine noxE (P := fun r : R (List FL.D) => postN g W ρ G F7 σ Q ((r.bind nxt).bind fin)) q5 (fun h => h) st5 fun y E6 v Fa Ha sta sa ra' qa => ?_
                by_cases hz : acc7.length < sizeLine
                · rw [if_pos hz] at qa
                  have s7a := (s79.trans s5).trans sa
                  have hDa : Ha D = some (.lst xs7) := sta.sg _ _ upd_same
                  exact ⟨xs7, hDa, by rw [← ra7.length]; exact hz, hlt1, Fa, _, acc7 ++ [y], xs7 ++ [v], (sta.rewrite gD).wiped2 vs1 w9, (ra7.mono s7a).append (RepL.cons ra' RepL.nil), s7.trans s7a, postN.mono s7a qa⟩
                · rw [if_neg hz] at qa
                  exact qa.elim
          · have e : j = ds1.length := by omega
            subst e
            rw [List.drop_length] at q7
            have q7 : postN g W ρ G F7 σ Q ((out (ds.drop (i + 1)) acc7 (wipeE E7 vs)).bind fin) := q7
            exact .inl ⟨w6.stops H7 F7 s7 st7.sf, hlt, F7, _, acc7, xs7, st7.wiped2 vs ((wipe_sub hv).trans w4), ra7, (s2.trans s16).trans s7, q7⟩
    · have e : i = ds.length := by omega
      subst e
      rw [List.drop_length] at q2
      have q2 : postN g W ρ G F2 σ Q (.val (.lst acc) (restoreE E1 E2 vs)) := q2
      refine .inl ⟨w.stops H2 F2 s2 st2.sf, ?_⟩
      exact q2 D (.lst xs) F2 H2 (st2.restored st1 s2) gD ⟨xs, rfl, ra⟩ (Same.refl _)
theorem fn_lc2 {fi fi1 : Nv → R (List D)} {b b1 : Bd} {tf tf1 : Nv → R Bool} {f : Nv → R D} {vs vs1 : List Nat} (hv : ∀ i ∈ vs1, i ∈ vs)
    (h : PE X e (tLc2 (tI g W fi) (tGv g vs b) (tG g W0 relB tf) (tI g W0 fi1) (tGv g vs1 b1) (tG g W0 relB tf1) (tG g W0 (relD g) f) vs vs1)) : FN X g W e (fLc2 fi b tf fi1 b1 tf1 f vs vs1) := peImp h fun _ _ _ q => le_lc2 hv q
theorem fs_setLc2 {i : Nat} {fi fi1 : Nv → R (List D)} {b b1 : Bd} {tf tf1 : Nv → R Bool} {f : Nv → R D} {vs vs1 : List Nat} (hv : ∀ i ∈ vs1, i ∈ vs)
    (h : PS X st (tAsg (tLc2 (tI g W fi) (tGv g vs b) (tG g W0 relB tf) (tI g W0 fi1) (tGv g vs1 b1) (tG g W0 relB tf1) (tG g W0 (relD g) f) vs vs1) (gName i))) : FS X g W st (fSetN i (fLc2 fi b tf fi1 b1 tf1 f vs vs1)) :=
  fs_setN (psImp h fun D σ H q => le_lc2 hv q)

/-! ## {} ; three names at once -/
def fEmp : Nv → R D := fun E => .val .emp E
theorem fe_emp (h : PE X e tDNewK) : FE X g W e fEmp := peImp h fun σ H Q ⟨ρ, G, E, F, st, q⟩ => fun p hp => q (.ref p) _ _ (st.grow hp _) (Same.new (st.fF hp)) ⟨p, rfl, upd_same⟩
def fPar3 (i j l : Nat) (f h k : Nv → R D) : Nv → R Fl := fun E => (f E).bind fun d E1 => (h E1).bind fun e E2 => (k E2).bind fun z E3 => .val .nx (((E3.set i (.fz d)).set j (.fz e)).set l (.fz z))
theorem fs_par3 {i j l : Nat} {f h k : Nv → R D} (hp : PS X st (tPar3 i j l (tCons (tG g W (relD g) f) (tCons (tG g W (relD g) h) (tCons (tG g W (relD g) k) tNil))))) : FS X g W st (fPar3 i j l f h k) := psImp hp fun D σ H ⟨ρ, G, E, F, st, q⟩ =>
  bindS st q fun d E1 v F1 H1 st1 s1 r1 q1 => bindS st1 q1 fun e E2 u F2 H2 st2 s2 r2 q2 => bindS st2 q2 fun z E3 w F3 H3 st3 s3 r3 q3 =>
    ⟨v, u, w, rfl, q3 _ F3 H3 (((st3.store (r1.mono (s2.trans s3))).store (r2.mono s3)).store r3) (Same.refl _)⟩
def fPar3N (i j l : Nat) (f h k : Nv → R D) : Nv → R Fl := fun E => (f E).bind fun d E1 => (h E1).bind fun e E2 => (k E2).bind fun z E3 => .val .nx (((E3.set i (.own d)).set j (.fz e)).set l (.fz z))
theorem fs_par3N {i j l : Nat} {f h k : Nv → R D} (hp : PS X st (tPar3 i j l (tCons (tN g W f) (tCons (tG g W (relD g) h) (tCons (tG g W (relD g) k) tNil))))) : FS X g W st (fPar3N i j l f h k) := psImp hp fun D σ H ⟨ρ, G, E, F, st, q⟩ =>
  bindNS st q fun d E1 p o F1 H1 st1 gn ow s1 q1 => by
    refine ⟨ρ, _, E1, F1, st1, ?_⟩
    revert q1
    cases h E1 with
    | exc c fs E' => exact fun q1 dx F' H' st' s x => q1 dx σ F' H' (st'.untemp gn) s x
    | bad => exact fun q1 => q1
    | val e E2 =>
      intro q1 u F2 H2 st2 s2 r2
      refine ⟨ρ, _, E2, F2, st2, ?_⟩
      have q1 : postS g W ρ G F1 D ((k E2).bind fun z E3 => .val .nx (((E3.set i (.own d)).set j (.fz e)).set l (.fz z))) := q1
      revert q1
      cases k E2 with
      | exc c fs E' => exact fun q1 dx F' H' st' s x => q1 dx σ F' H' (st'.untemp gn) (s2.trans s) x
      | bad => exact fun q1 => q1
      | val z E3 => exact fun q1 w F3 H3 st3 s3 r3 => ⟨.ref p, u, w, rfl, q1 _ F3 H3 (((st3.take gn (ow.mono (s2.trans s3))).store (r2.mono s3)).store r3) (s2.trans s3)⟩
/-! ## tuple(range(n)) -/
def fTupR (f : Nv → R D) : Nv → R D := fun E => (f E).bind fun d E1 => match d with
  | .int n => if 0 ≤ n ∧ n ≤ 1000000 then .val (.tup (rangeD 0 n.toNat)) E1 else .bad
  | _ => .bad
theorem repl_rg {F : Hp} (n : Nat) : RepL g F (rangeD 0 n) ((List.range n).map fun i => V.int (0 + (i : Nat))) := by
  have := RepL.ints (g := g) (F := F) ((List.range n).map fun i : Nat => (0 + (i : Int)))
  rw [List.map_map, List.map_map] at this
  exact this
theorem fe_tupR {f : Nv → R D} (h : PE X e (tTupRg (tRg1 (tG g W (relD g) f)))) : FE X g W e (fTupR f) := peImp h fun σ H Q ⟨ρ, G, E, F, st, q⟩ =>
  bindE st q fun d E1 v F1 H1 st1 s1 r1 q1 => by
    cases d with
    | int n =>
      obtain rfl : v = .int n := r1
      have q1 : post g W (relD g) ρ G F1 σ Q (if 0 ≤ n ∧ n ≤ 1000000 then .val (.tup (rangeD 0 n.toNat)) E1 else .bad) := q1
      by_cases hn : 0 ≤ n ∧ n ≤ 1000000
      · rw [if_pos hn] at q1
        refine ⟨n, rfl, .of_le (by omega) (by omega) (by omega) hn.1, fun p hp => ?_⟩
        refine q1 (.ref p) _ _ (st1.grow hp _) (Same.new (st1.fF hp)) ⟨p, _, rfl, .inl (.inl upd_same), ?_⟩
        have : (n - 0).toNat = n.toNat := by omega
        unfold rgV
        rw [this]
        exact repl_rg _
      · rw [if_neg hn] at q1; exact q1.elim
    | _ => exact q1.elim
/-! ## -a -/
def fNeg (f : Nv → R D) : Nv → R D := fun E => (f E).bind fun d E1 => match d with
  | .int n => .val (.int (-n)) E1
  | _ => .bad
theorem fe_neg {f : Nv → R D} (h : PE X e (tUn (rU fun i => .int (-i)) (tG g W (relD g) f))) : FE X g W e (fNeg f) := peImp h fun σ H Q ⟨ρ, G, E, F, st, q⟩ =>
  bindE st q fun d E1 v F1 H1 st1 s1 r1 q1 => by
    cases d with
    | int n =>
      obtain rfl : v = .int n := r1
      exact ⟨n, rfl, q1 _ F1 H1 st1 (Same.refl _) rfl⟩
    | _ => exact q1.elim
end
/-! ## facts of classes -/
theorem kit_sub {K : PySem.W.Frag} {x y : Addr} {b : Bool} (ci : PySem.W.isClsIn K x = true) (cy : PySem.W.typeIn K (.ref x) = some (.type "type")) (sx : PySem.W.subIn K (.ref x) (.ref x) = some true) (s : PySem.W.subIn K (.ref y) (.ref x) = some b) :
    PySem.W.kitOne K (.ref y) (.ref x) = some b := by
  have e2 : ((PySem.W.clsIn K x).isSome && PySem.W.typeIn K (.ref x) == some (.type "type")) = true := by
    have ci' : (PySem.W.clsIn K x).isSome = true := ci
    rw [ci', cy] <;> rfl
  unfold PySem.W.kitOne
  by_cases h : (Value.ref y == Value.ref x) = true
  · rw [if_pos h]
    have : y = x := Value.ref.inj (beq_iff_eq.mp h)
    subst this
    rw [sx] at s
    exact s
  · rw [if_neg h]
    unfold PySem.W.kitCls
    simp only [e2, if_true]
    exact s
theorem kit_subT {K : PySem.W.Frag} {y : Addr} {T : String} {b : Bool} (m : PySem.W.kitMeta T = true) (s : PySem.W.subIn K (.ref y) (.type T) = some b) : PySem.W.kitOne K (.ref y) (.type T) = some b := by
  unfold PySem.W.kitOne
  rw [if_neg (by intro h; cases (beq_iff_eq.mp h))]
  unfold PySem.W.kitCls
  simp only [m, if_true]
  exact s
theorem nb_mk {K : PySem.W.Frag} {y : Addr} (h1 : PySem.W.subIn K (.ref y) (.type "bool") = some false) (h2 : PySem.W.subIn K (.ref y) (.type "int") = some false) (h3 : PySem.W.subIn K (.ref y) (.type "str") = some false) (h4 : PySem.W.subIn K (.ref y) (.type "tuple") = some false)
    (h5 : PySem.W.subIn K (.ref y) (.type "list") = some false) (h6 : PySem.W.subIn K (.ref y) (.type "dict") = some false) : ∀ T ∈ tgs, PySem.W.kitOne K (.ref y) (.type T) = some false := fun T hT => by
  simp only [tgs, List.mem_cons, List.not_mem_nil, or_false] at hT
  rcases hT with rfl | rfl | rfl | rfl | rfl | rfl
  · exact kit_subT (by decide +kernel) h1
  · exact kit_subT (by decide +kernel) h2
  · exact kit_subT (by decide +kernel) h3
  · exact kit_subT (by decide +kernel) h4
  · exact kit_subT (by decide +kernel) h5
  · exact kit_subT (by decide +kernel) h6
end FL

namespace FL
open PySem PySem.Spec PyProof.Rows L2

/-! ## a run that may end in an exception: QS where it ends, QX where it raises -/
abbrev QXT := Nat → Option (Str × D) → Nv → Prop
def runS {α : Type} (Q : α → Nv → Prop) (X : QXT) (_ : Tg (Q, X)) (r : R α) : Prop := match r with
  | .val a E => Q a E
  | .exc c fs E => X c fs E
  | .bad => False
def runX {α : Type} (X : QXT) (_ : Tg X) (r : R α) : Prop := match r with
  | .exc c fs E => X c fs E
  | _ => False
def seqS (t : Nv → R Fl) (Q : Fl → Nv → Prop) (X : QXT) (_ : Tg (t, Q, X)) (fl : Fl) (E : Nv) : Prop := match fl with
  | .nx => runS Q X () (t E)
  | fl => Q fl E
def ifS {α : Type} (a b : Nv → R α) (Q : α → Nv → Prop) (X : QXT) (_ : Tg (a, b, Q, X)) (c : Bool) (E : Nv) : Prop := if c = true then runS Q X () (a E) else runS Q X () (b E)
def calX (fn : Fn) (ars : List Ar) (X : QXT) (_ : Tg (fn, ars, X)) (E : Nv) (as : Option (List Sl)) : Prop := match as with
  | some as => once ars = true ∧ ∃ c fs bs, fn as = .exc c fs bs ∧ shape as bs = true ∧ X c fs (unlend ars bs E)
  | none => False
def excK (tst : Nat → Bool) (i : Nat) (h : Nat → Option (Str × D) → Nv → R Fl) (Q : Fl → Nv → Prop) (X : QXT) (_ : Tg (tst, h, Q, X)) : QXT := fun c fs E => if tst c = true then i < E.length ∧ runS Q X () (h c fs (E.set i .no)) else X c fs E
def bakX (as : List Sl) (P : Nat → Option (Str × D) → List Sl → Prop) (_ : Tg (as, P)) : QXT := fun c fs E => ∃ x, backs as E = some x ∧ P c fs x
def noX : QXT := fun _ _ _ => False
section
variable {α : Type} {E : Nv} {Q : α → Nv → Prop} {QD : D → Nv → Prop} {QS : Fl → Nv → Prop} {X : QXT} {f h k : Nv → R D} {fl : Nv → R (List Ar)} {t : Nv → R Bool} {s s2 : Nv → R Fl} {a b : Nv → R α} {i j l : Nat} {d : D} {fn : Fn}
theorem s_run {r : R α} {g : Tg (Q, X)} (h : run Q () r) : runS Q X g r := by
  cases r with
  | val a E => exact h
  | _ => exact h.elim
theorem s_exc {r : R α} {g : Tg (Q, X)} (h : runX X () r) : runS Q X g r := by
  cases r with
  | exc a E => exact h
  | _ => exact h.elim
theorem s_seq {g : Tg (QS, X)} : runS QS X g (fSeq s s2 E) = runS (seqS s2 QS X ()) X () (s E) := by
  unfold fSeq; cases s E with
  | val fl E1 => cases fl <;> rfl
  | exc _ _ _ => rfl
  | bad => rfl
theorem seqS_nx {g : Tg (s, QS, X)} : seqS s QS X g .nx E = runS QS X () (s E) := rfl
theorem seqS_rt {g : Tg (s, QS, X)} : seqS s QS X g (.rt d) E = QS (.rt d) E := rfl
theorem seqS_rn {g : Tg (s, QS, X)} : seqS s QS X g (.rn d) E = QS (.rn d) E := rfl
theorem seqS_bk {g : Tg (s, QS, X)} : seqS s QS X g .bk E = QS .bk E := rfl
theorem seqS_ct {g : Tg (s, QS, X)} : seqS s QS X g .ct E = QS .ct E := rfl
theorem s_val {x : α} {g : Tg (Q, X)} : runS Q X g (.val x E) = Q x E := rfl
theorem s_nx {g : Tg (QS, X)} : runS QS X g (fNx E) = QS .nx E := rfl
theorem s_if {g : Tg (Q, X)} (h : run (ifS a b Q X ()) () (t E)) : runS Q X g (fIf t a b E) := by
  unfold fIf
  revert h
  cases t E with
  | val c E1 =>
    cases c with
    | true => exact fun h => h
    | false => exact fun h => h
  | _ => exact fun h => h.elim
theorem ifS_t {g : Tg (a, b, Q, X)} : ifS a b Q X g true E = runS Q X () (a E) := rfl
theorem ifS_f {g : Tg (a, b, Q, X)} : ifS a b Q X g false E = runS Q X () (b E) := rfl
theorem ifS_if {g : Tg (a, b, Q, X)} {c : Bool} (h1 : c = true → runS Q X () (a E)) (h2 : c = false → runS Q X () (b E)) : ifS a b Q X g c E := by
  cases c with
  | true => exact h1 rfl
  | false => exact h2 rfl
theorem s_raise {c : Nat} {n : Str} {g : Tg (QS, X)} (q : run (fun d E1 => X c (some (n, d)) E1) () (f E)) : runS QS X g (fRaise1 c n f E) := by
  unfold fRaise1
  revert q
  cases f E with
  | val d E1 => exact fun q => q
  | _ => exact fun q => q.elim
theorem xx_set {g : Tg X} : runX X g (fSet i f E) = runX X () (f E) := by unfold fSet; cases f E <;> rfl
theorem xx_setN {g : Tg X} : runX X g (fSetN i f E) = runX X () (f E) := by unfold fSetN; cases f E <;> rfl
theorem xx_ret {g : Tg X} : runX X g (fRet f E) = runX X () (f E) := by unfold fRet; cases f E <;> rfl
theorem xx_drop {g : Tg X} : runX X g (fDrop f E) = runX X () (f E) := by unfold fDrop; cases f E <;> rfl
theorem xx_call {g : Tg X} (q : run (fun as E1 => calX fn as X () E1 (lend E1 0 as)) () (fl E)) : runX X g (fCall fn fl E) := by
  unfold fCall
  revert q
  cases fl E with
  | val as E1 =>
    intro q
    have q : calX fn as X () E1 (lend E1 0 as) := q
    show runX X () (resC fn as E1)
    unfold resC
    revert q
    cases lend E1 0 as with
    | none => exact fun q => q.elim
    | some ls =>
      rintro ⟨ho, c, fs, bs, e, sh, q⟩
      simp only [ho, e, sh, if_true]
      exact q
  | _ => exact fun q => q.elim
theorem xx_callN {g : Tg X} (q : run (fun as E1 => calX fn as X () E1 (lend E1 0 as)) () (fl E)) : runX X g (fCallN fn fl E) := by
  unfold fCallN
  revert q
  cases fl E with
  | val as E1 =>
    intro q
    have q : calX fn as X () E1 (lend E1 0 as) := q
    show runX X () (resCN fn as E1)
    unfold resCN
    revert q
    cases lend E1 0 as with
    | none => exact fun q => q.elim
    | some ls =>
      rintro ⟨ho, c, fs, bs, e, sh, q⟩
      simp only [ho, e, sh, if_true]
      exact q
  | _ => exact fun q => q.elim
theorem xx_make {c : Nat} {g : Tg X} (q : run (fun as E1 => calX fn (.pk E1.length :: as) (fun c fs E2 => X c fs (E2.take E1.length)) () (E1 ++ [.own (.ins c [] [])]) (lend (E1 ++ [.own (.ins c [] [])]) 0 (.pk E1.length :: as))) () (fl E)) : runX X g (fMake c fn fl E) := by
  unfold fMake
  revert q
  cases fl E with
  | val as E1 =>
    intro q
    have q : calX fn (.pk E1.length :: as) (fun c fs E2 => X c fs (E2.take E1.length)) () (E1 ++ [.own (.ins c [] [])]) (lend (E1 ++ [.own (.ins c [] [])]) 0 (.pk E1.length :: as)) := q
    show runX X () (resMk c fn as E1)
    unfold resMk resC
    revert q
    cases lend (E1 ++ [.own (.ins c [] [])]) 0 (.pk E1.length :: as) with
    | none => exact fun q => q.elim
    | some ls =>
      rintro ⟨ho, c, fs, bs, e, sh, q⟩
      simp only [ho, e, sh, if_true]
      exact q
  | _ => exact fun q => q.elim
theorem calX_by {as : List Sl} {ars : List Ar} {c : Nat} {fs : Option (Str × D)} {bs : List Sl} {g : Tg (fn, ars, X)} (e : fn as = .exc c fs bs) (ho : once ars = true) (sh : shape as bs = true) (q : X c fs (unlend ars bs E)) : calX fn ars X g E (some as) := ⟨ho, c, fs, bs, e, sh, q⟩
def exK (as : List Sl) (ars : List Ar) (X : QXT) (E : Nv) (_ : Tg (as, ars, X, E)) (r : FR) : Prop := match r with
  | .exc c fs bs => shape as bs = true ∧ X c fs (unlend ars bs E)
  | _ => False
theorem calX_s {as : List Sl} {ars : List Ar} {g : Tg (fn, ars, X)} : calX fn ars X g E (some as) = (once ars = true ∧ exK as ars X E () (fn as)) := by
  show (once ars = true ∧ ∃ c fs bs, fn as = .exc c fs bs ∧ shape as bs = true ∧ X c fs (unlend ars bs E)) = _
  refine propext ⟨fun ⟨ho, c, fs, bs, e, sh, q⟩ => ⟨ho, by rw [e]; exact ⟨sh, q⟩⟩, fun ⟨ho, q⟩ => ⟨ho, ?_⟩⟩
  revert q
  cases fn as with
  | exc c fs bs => exact fun q => ⟨c, fs, bs, rfl, q⟩
  | _ => exact fun q => q.elim
theorem exK_exc {as : List Sl} {ars : List Ar} {c : Nat} {fs : Option (Str × D)} {bs : List Sl} {g : Tg (as, ars, X, E)} : exK as ars X E g (.exc c fs bs) = (shape as bs = true ∧ X c fs (unlend ars bs E)) := rfl
/-! try -/
theorem s_try {tst : Nat → Bool} {hd : Nat → Option (Str × D) → Nv → R Fl} {g : Tg (QS, X)} : runS QS X g (fTry1 i tst s hd E) = runS QS (excK tst i hd QS X ()) () (s E) := by
  unfold fTry1
  cases s E with
  | val fl E1 => rfl
  | bad => rfl
  | exc c fs E1 =>
    show runS QS X () (if tst c = true then (if i < E1.length then hd c fs (E1.set i .no) else .bad) else .exc c fs E1) = excK tst i hd QS X () c fs E1
    unfold excK
    by_cases ht : tst c = true
    · simp only [ht, if_true]
      by_cases hl : i < E1.length
      · simp [hl]
      · simp [hl, runS]
    · simp only [ht, if_false]; rfl
theorem x_try {tst : Nat → Bool} {hd : Nat → Option (Str × D) → Nv → R Fl} {g : Tg QS} : run QS g (fTry1 i tst s hd E) = runS QS (excK tst i hd QS noX ()) () (s E) := by
  rw [← s_try (g := ())]
  cases fTry1 i tst s hd E <;> rfl
theorem excK_t {tst : Nat → Bool} {hd : Nat → Option (Str × D) → Nv → R Fl} {g : Tg (tst, hd, QS, X)} {c : Nat} {fs : Option (Str × D)} : excK tst i hd QS X g c fs E = if tst c = true then i < E.length ∧ runS QS X () (hd c fs (E.set i .no)) else X c fs E := rfl
theorem s_hRet {v : Xv} {c : Nat} {fs : Option (Str × D)} {g : Tg (QS, X)} : runS QS X g (hRet v c fs E) = optK (fun d => QS (.rt d) E) () (v c fs) := by
  unfold hRet optK
  cases v c fs with
  | none => simp [runS]
  | some d => simp [runS]
theorem s_hSet {v : Xv} {c : Nat} {fs : Option (Str × D)} {g : Tg (QS, X)} : runS QS X g (hSet i v c fs E) = optK (fun d => QS .nx (E.set i (.fz d))) () (v c fs) := by
  unfold hSet optK
  cases v c fs with
  | none => simp [runS]
  | some d => simp [runS]
theorem optK_s {γ : Type} {Q : γ → Prop} {g : Tg Q} {x : γ} : optK Q g (some x) = Q x := by unfold optK; exact ex_some
/-! the whole def -/
theorem fn_exc {N : Nat} {as : List Sl} {c : Nat} {fs : Option (Str × D)} {y : List Sl} (h : runS (fun _ _ => False) (bakX as (fun c' fs' bs => c' = c ∧ fs' = fs ∧ bs = y) ()) () (s (as ++ List.replicate (N - as.length) .no))) : runF N s as = .exc c fs y := by
  unfold runF
  revert h
  cases s (as ++ List.replicate (N - as.length) .no) with
  | val _ _ => exact fun h => h.elim
  | bad => exact fun h => h.elim
  | exc c' fs' E' =>
    rintro ⟨x, e, h1, h2, h3⟩
    subst h1; subst h2; subst h3
    simp only [e]
theorem bakX_s {as : List Sl} {P : Nat → Option (Str × D) → List Sl → Prop} {g : Tg (as, P)} {c : Nat} {fs : Option (Str × D)} : bakX as P g c fs E = optK (fun x => P c fs x) () (backs as E) := rfl
/-! ## the further forms -/
theorem x_fEmp {g : Tg QD} : run QD g (fEmp E) = QD .emp E := rfl
theorem x_fPar3 {g : Tg QS} : run QS g (fPar3 i j l f h k E) = run (fun d E1 => run (fun e E2 => run (fun z E3 => QS .nx (((E3.set i (.fz d)).set j (.fz e)).set l (.fz z))) () (k E2)) () (h E1)) () (f E) := by
  unfold run fPar3; simp only [wp_bind]; rfl
theorem x_fPar3N {g : Tg QS} : run QS g (fPar3N i j l f h k E) = run (fun d E1 => run (fun e E2 => run (fun z E3 => QS .nx (((E3.set i (.own d)).set j (.fz e)).set l (.fz z))) () (k E2)) () (h E1)) () (f E) := by
  unfold run fPar3N; simp only [wp_bind]; rfl
def rTupR (d : D) : Option D := match d with
  | .int n => if 0 ≤ n ∧ n ≤ 1000000 then some (.tup (rangeD 0 n.toNat)) else none
  | _ => none
theorem rTupR_s {n : Int} : rTupR (.int n) = if 0 ≤ n ∧ n ≤ 1000000 then some (.tup (rangeD 0 n.toNat)) else none := rfl
theorem x_fTupR {g : Tg QD} : run QD g (fTupR f E) = run (fun d E1 => run QD () (R.some (rTupR d) E1)) () (f E) := by
  unfold run fTupR; rw [wp_bind]; congr; funext d E1; unfold rTupR
  cases d <;> try rfl
  rename_i n
  by_cases hn : 0 ≤ n ∧ n ≤ 1000000 <;> simp [hn, R.some]
def rNeg (d : D) : Option D := match d with
  | .int n => some (.int (-n))
  | _ => none
theorem rNeg_s {n : Int} : rNeg (.int n) = some (.int (-n)) := rfl
theorem x_fNeg {g : Tg QD} : run QD g (fNeg f E) = run (fun d E1 => run QD () (R.some (rNeg d) E1)) () (f E) := by
  unfold run fNeg; rw [wp_bind]; congr; funext d E1; unfold rNeg
  cases d <;> rfl
theorem x_ins {ds : List D} {n : Int} {d : D} : mInsert (.lst ds) [.int n, d] = if ds.length < sizeLine ∧ 0 ≤ n ∧ n ≤ 1000000 then some (.non, .lst (ds.take n.toNat ++ [d] ++ ds.drop n.toNat)) else none := rfl
theorem x_ext {ds es : List D} : mExtend (.lst ds) [.lst es] = if ds.length + es.length ≤ sizeLine then some (.non, .lst (ds ++ es)) else none := rfl
theorem x_popAt {ds : List D} {n : Int} {d : D} (h0 : 0 ≤ n) (h1 : n ≤ 1000000) (e : ds[n.toNat]? = some d) : mPopAt (.lst ds) [.int n] = some (d, .lst (ds.eraseIdx n.toNat)) := by
  show (if 0 ≤ n ∧ n ≤ 1000000 then _ else _) = _
  rw [if_pos ⟨h0, h1⟩, e]
/-! two fors -/
def lc2K (b : Bd) (t : Nv → R Bool) (fi1 : Nv → R (List D)) (b1 : Bd) (t1 : Nv → R Bool) (f : Nv → R D) (vs vs1 : List Nat) (Q : D → Nv → Prop) (_ : Tg (b, t, fi1, b1, t1, f, Q)) (ds : List D) (E : Nv) : Prop :=
  wp (lc2L b t fi1 b1 t1 f vs vs1 ds [] (wipeE E vs)) fun xs E2 => Q (.lst xs) (restoreE E E2 vs)
def lcaK (b1 : Bd) (t1 : Nv → R Bool) (f : Nv → R D) (vs1 : List Nat) (acc : List D) (Q : List D → Nv → Prop) (_ : Tg (b1, t1, f, Q)) (ds : List D) (E : Nv) : Prop := wp (lcL b1 t1 f vs1 ds acc (wipeE E vs1)) Q
def yesK (Q : Nv → Prop) (_ : Tg Q) (c : Bool) (E : Nv) : Prop := c = true ∧ Q E
theorem yesK_t {Q : Nv → Prop} {g : Tg Q} : yesK Q g true E = Q E := by unfold yesK; simp
theorem x_fLc2 {fi fi1 : Nv → R (List D)} {b b1 : Bd} {t1 : Nv → R Bool} {vs vs1 : List Nat} {g : Tg QD} : run QD g (fLc2 fi b t fi1 b1 t1 f vs vs1 E) = run (lc2K b t fi1 b1 t1 f vs vs1 QD ()) () (fi E) := by
  unfold run fLc2 lc2K; rw [wp_bind]; congr; funext ds E1; rw [wp_bind]; rfl
theorem lc2_run {β : Type} {kf : β → D} {b b1 : Bd} {fi1 : Nv → R (List D)} {t1 : Nv → R Bool} {vs vs1 : List Nat} (P : List β → List D → Nv → Prop) : ∀ (xs : List β) (acc : List D) (E0 : Nv), P xs acc E0 →
    (∀ x r acc E, P (x :: r) acc E → someK (fun E1 => run (yesK (fun E2 => run (fun ds1 E3 => lcaK b1 t1 f vs1 acc (fun acc' E4 => P r acc' (wipeE E4 vs)) () ds1 E3) () (fi1 E2)) ()) () (t E1)) () (b (kf x) E)) →
    (∀ acc E2, P [] acc E2 → QD (.lst acc) (restoreE E E2 vs)) → wp (lc2L b t fi1 b1 t1 f vs vs1 (xs.map kf) acc E0) fun ys E2 => QD (.lst ys) (restoreE E E2 vs)
  | [], acc, E0, p, _, fin => fin acc E0 p
  | x :: xs, acc, E0, p, turn, fin => by
    obtain ⟨E1, e1, w⟩ := turn x xs acc E0 p
    rw [List.map_cons, lc2L]
    simp only [e1]
    rw [wp_bind, wp_nox]
    refine wp_imp w fun c E2 ⟨hc, q⟩ => ?_
    subst hc
    rw [if_pos rfl, wp_bind, wp_nox]
    have q : wp (fi1 E2) _ := q
    refine wp_imp q fun ds1 E3 q2 => ?_
    rw [wp_bind]
    have q2 : wp (lcL b1 t1 f vs1 ds1 acc (wipeE E3 vs1)) _ := q2
    refine wp_imp q2 fun acc' E4 p' => lc2_run P xs acc' _ p' turn fin
theorem lc2_maps {β : Type} {kf : β → D} {xs : List β} {b b1 : Bd} {fi1 : Nv → R (List D)} {t1 : Nv → R Bool} {vs vs1 : List Nat} {g : Tg (b, t, fi1, b1, t1, f, QD)} (P : List β → List D → Nv → Prop) (h0 : P xs [] (wipeE E vs))
    (turn : ∀ x r acc E, P (x :: r) acc E → someK (fun E1 => run (yesK (fun E2 => run (fun ds1 E3 => lcaK b1 t1 f vs1 acc (fun acc' E4 => P r acc' (wipeE E4 vs)) () ds1 E3) () (fi1 E2)) ()) () (t E1)) () (b (kf x) E))
    (fin : ∀ acc E2, P [] acc E2 → QD (.lst acc) (restoreE E E2 vs)) : lc2K b t fi1 b1 t1 f vs vs1 QD g (xs.map kf) E := lc2_run P xs [] _ h0 turn fin
theorem lca_fun {β : Type} {kf hf : β → D} {b1 : Bd} {vs1 : List Nat} {Q : List D → Nv → Prop} : ∀ {xs : List β} {acc : List D} {g : Tg (b1, tYesF, f, Q)} (hl : acc.length + xs.length ≤ sizeLine)
    (turn : ∀ x, x ∈ xs → someK (fun E1 => run (fun y E3 => y = hf x ∧ wipeE E3 vs1 = wipeE E vs1) () (f E1)) () (b1 (kf x) (wipeE E vs1)))
    (fin : Q (acc ++ xs.map hf) (wipeE E vs1)), lcaK b1 tYesF f vs1 acc Q g (xs.map kf) E
  | [], acc, g, hl, turn, fin => by
    have fin : Q (acc ++ []) _ := fin
    rw [List.append_nil] at fin
    exact fin
  | x :: xs, acc, g, hl, turn, fin => by
    obtain ⟨E1, e1, w⟩ := turn x (List.mem_cons_self ..)
    rw [List.length_cons] at hl
    unfold lcaK
    rw [List.map_cons, lcL]
    simp only [e1]
    have ey : ∀ k : Bool → Nv → R (List D), ((tYesF E1).nox.bind k) = k true E1 := fun _ => rfl
    rw [ey, if_pos rfl, wp_bind, wp_nox]
    have w : wp (f E1) _ := w
    refine wp_imp w fun y E3 ⟨hy, he⟩ => ?_
    subst hy
    rw [if_pos (by omega), he]
    refine lca_fun (xs := xs) (acc := acc ++ [hf x]) (g := ()) (by rw [List.length_append, List.length_singleton]; omega) (fun z hz => turn z (List.mem_cons_of_mem _ hz)) ?_
    rw [List.map_cons] at fin
    rw [List.append_assoc]
    exact fin
end
/-! own == by kind -/
section
variable {E : Nv} {QD : D → Nv → Prop} {c N : Nat} {fn : Fn} {a b : Ar} {g : Tg (fn, QD)} {n1 : List Str} {d1 : List D}
abbrev eqR (fn : Fn) (a b : Ar) (QD : D → Nv → Prop) (E : Nv) : Prop := calK fn [a, b] (fun d E2 => run (fun k E3 => QD (.bl k) E3) () (R.some (asB d) E2)) () E (lend E 0 [a, b])
theorem eqK_oth {c' : Nat} {n2 : List Str} {d2 : List D} (h : c < N) (h' : c' < N) : eqK N c fn a b QD g E (some (.ins c n1 d1)) (some (.ins c' n2 d2)) = eqR fn a b QD E := eqK_s (by simp [eqKind, h, h'])
theorem eqK_ins {n2 : List Str} {d2 : List D} : eqK N c fn a b QD g E (some (.ins c n1 d1)) (some (.ins c n2 d2)) = eqR fn a b QD E := eqK_s (by simp [eqKind])
theorem eqK_tup {ds : List D} : eqK N c fn a b QD g E (some (.ins c n1 d1)) (some (.tup ds)) = eqR fn a b QD E := eqK_s rfl
theorem eqK_lst {ds : List D} : eqK N c fn a b QD g E (some (.ins c n1 d1)) (some (.lst ds)) = eqR fn a b QD E := eqK_s rfl
theorem eqK_non : eqK N c fn a b QD g E (some (.ins c n1 d1)) (some .non) = eqR fn a b QD E := eqK_s rfl
theorem eqK_int {i : Int} : eqK N c fn a b QD g E (some (.ins c n1 d1)) (some (.int i)) = eqR fn a b QD E := eqK_s rfl
theorem eqK_str {i : Str} : eqK N c fn a b QD g E (some (.ins c n1 d1)) (some (.str i)) = eqR fn a b QD E := eqK_s rfl
theorem eqK_bl {i : Bool} : eqK N c fn a b QD g E (some (.ins c n1 d1)) (some (.bl i)) = eqR fn a b QD E := eqK_s rfl
end
end FL

namespace FL
open PySem PySem.Spec PyProof.Rows L2

/-! ## x is True, x is not False -/
def rIsBA : R2 := fun x y H Q => ∃ b : Bool, y = .bl b ∧ Q (.bl (decide (x = .bl b))) H
def rNotBA : R2 := fun x y H Q => ∃ b : Bool, y = .bl b ∧ Q (.bl (!decide (x = .bl b))) H
theorem op_isBA {X : Cx} : OpR X (compareOp .Is) rIsBA := by
  intro pins s σ H x y v u Q I rx ry h
  obtain ⟨b, rfl, q⟩ := h
  cases (show u = Value.bool b from ry)
  have no : ∀ w : V, w ≠ .bl b → Q (.bl (decide (w = .bl b))) H → Q (.bl false) H := fun w e q => by
    rw [decide_eq_false e] at q; exact q
  cases x with
  | bl a =>
    cases (show v = Value.bool a from rx)
    by_cases e : a = b
    · subst e
      exact wpAny_is_self rfl ⟨.bl true, H, I, rfl, by simpa using q⟩
    · exact wpAny_is_other rfl (fun z => e (Value.bool.inj z)) ⟨.bl false, H, I, rfl, by simpa [e] using q⟩
  | non => cases (show v = Value.none from rx); exact wpAny_is_other rfl (fun z => by cases z) ⟨.bl false, H, I, rfl, no .non (by intro z; cases z) q⟩
  | int i => obtain ⟨t, rfl⟩ := rx; exact wpAny_is_other rfl (fun z => by cases z) ⟨.bl false, H, I, rfl, no (.int i) (by intro z; cases z) q⟩
  | str i => obtain ⟨t, rfl⟩ := rx; exact wpAny_is_other rfl (fun z => by cases z) ⟨.bl false, H, I, rfl, no (.str i) (by intro z; cases z) q⟩
  | byt i => obtain ⟨t, rfl⟩ := rx; exact wpAny_is_other rfl (fun z => by cases z) ⟨.bl false, H, I, rfl, no (.byt i) (by intro z; cases z) q⟩
  | flt i => obtain ⟨t, rfl⟩ := rx; exact wpAny_is_other rfl (fun z => by cases z) ⟨.bl false, H, I, rfl, no (.flt i) (by intro z; cases z) q⟩
  | ref a => cases (show v = Value.ref a from rx); exact wpAny_is_other rfl (fun z => by cases z) ⟨.bl false, H, I, rfl, no (.ref a) (by intro z; cases z) q⟩
  | ty a => cases (show v = Value.type a from rx); exact wpAny_is_other rfl (fun z => by cases z) ⟨.bl false, H, I, rfl, no (.ty a) (by intro z; cases z) q⟩
def isBlD (b : Bool) : D → Option Bool
  | .bl a => some (a == b)
  | .raw _ => none
  | _ => some false
def oIsB (d e : D) : Option D := match e with
  | .bl b => (isBlD b d).map .bl
  | _ => none
theorem isBl_ok {g : Gm} {F H : Hp} {d : D} {v : V} {b c : Bool} (rd : RepH g F H d v) (h : isBlD c d = some b) : decide (v = .bl c) = b := by
  have no : ∀ w : V, w ≠ .bl c → some false = some b → decide (w = .bl c) = b := fun w e z => by cases z; exact decide_eq_false e
  rcases rd with rd | ⟨p, o, rfl, _, _⟩
  · cases d with
    | bl a =>
      cases (show v = V.bl a from rd)
      cases h
      by_cases e : a = c
      · subst e; simp
      · simp [e]
    | raw n => cases h
    | non => cases (show v = V.non from rd); exact no _ (by intro z; cases z) h
    | int i => cases (show v = V.int i from rd); exact no _ (by intro z; cases z) h
    | str i => cases (show v = V.str i from rd); exact no _ (by intro z; cases z) h
    | ty i => cases (show v = V.ty i from rd); exact no _ (by intro z; cases z) h
    | cls i => cases (show v = V.ref _ from rd); exact no _ (by intro z; cases z) h
    | tup ds => obtain ⟨a, xs, rfl, _⟩ := rd; exact no _ (by intro z; cases z) h
    | lst ds => obtain ⟨a, xs, rfl, _⟩ := rd; exact no _ (by intro z; cases z) h
    | scr ds => obtain ⟨a, rfl, _⟩ := rd; exact no _ (by intro z; cases z) h
    | ins _ _ _ => obtain ⟨a, dx, xs, rfl, _⟩ := rd; exact no _ (by intro z; cases z) h
    | emp => obtain ⟨a, rfl, _⟩ := rd; exact no _ (by intro z; cases z) h
  · cases d with
    | lst ds => exact no _ (by intro z; cases z) h
    | ins _ _ _ => exact no _ (by intro z; cases z) h
    | _ => rename_i ow; exact ow.elim
theorem op2_isB (g : Gm) : Op2 g rIsBA oIsB := by
  intro F H v u d e z Q sf rd re ho k
  cases e <;> try (simp [oIsB] at ho; done)
  rename_i c
  unfold oIsB at ho
  obtain ⟨b, h1, rfl⟩ := Option.map_eq_some_iff.mp ho
  refine ⟨c, re.bl, ?_⟩
  rw [isBl_ok rd h1]; exact k _ _ _ .refl rfl

/-! ## a.join(b) -/
def strsD : List D → Option (List Str)
  | [] => some []
  | .str s :: ds => match strsD ds with
    | some ys => some (s :: ys)
    | none => none
  | _ => none
theorem repl_strsD {g : Gm} {F : Hp} : ∀ {ds : List D} {ns : List Str} {xs : List V}, RepL g F ds xs → strsD ds = some ns → xs = ns.map V.str
  | [], ns, xs, r, e => by
    cases e
    exact r
  | d :: ds, ns, xs, r, e => by
    cases d with
    | str i =>
      rw [strsD] at e
      obtain ⟨x, ys, rfl, rx, ry⟩ := r
      cases z : strsD ds with
      | none => rw [z] at e; cases e
      | some ms =>
        rw [z] at e
        cases e
        rw [repl_strsD ry z]
        obtain rfl : x = .str i := rx
        rfl
    | _ => cases e
def joinS (a : Str) (ds : List D) : Option D := match strsD ds with
  | some ys => if (ys.map (·.length)).sum + ys.length * a.length ≤ 16777216 then some (.str (Txt.join a ys)) else none
  | none => none
def oJoin : D → D → Option D
  | .str a, .lst ds => joinS a ds
  | .str a, .tup ds => joinS a ds
  | _, _ => none
def resJoin (E : Nv) (a b : Ar) : R D := R.some (r2 oJoin (a.get E) (b.get E)) E
def fJoin (fa fb : Nv → R Ar) : Nv → R D := fun E => (fa E).bind fun a E1 => match a.get E1 with
  | some (.str _) => (fb E1).bind fun b E2 => resJoin E2 a b
  | _ => .bad
section
variable {X : Cx} {g : Gm} {W : WX} {e : Expr}
theorem fe_join {fa fb : Nv → R Ar} (hK : X.K = g.K) (h : PE X e (tM1 (fun x xs H Q => ∃ a p, ∃ ys : List Str, x = .str a ∧ xs = [.ref p] ∧ (SqL X.K H p (ys.map V.str) ∨ SqT X.K H p (ys.map V.str)) ∧
      (ys.map (·.length)).sum + ys.length * a.length ≤ 16777216 ∧ Q (.str (Txt.join a ys)) H) (tG g W (relA g) fa) (tG g W (relA g) fb))) : FE X g W e (fJoin fa fb) := peImp h fun σ H Q ⟨ρ, G, E, F, st, q⟩ =>
  bindE st q fun a E1 v F1 H1 st1 s1 r1 q1 => by
    cases z : a.get E1 with
    | none => simp only [z] at q1; exact q1.elim
    | some d =>
      simp only [z] at q1
      cases d with
      | str x =>
        have rv := ar_ok st1 r1 z
        obtain rfl := rv.str
        refine ⟨⟨x, rfl⟩, bindE st1 q1 fun b E2 u F2 H2 st2 s2 r2' q2 => ?_⟩
        unfold resJoin r2 at q2
        cases za : a.get E2 with
        | none => simp only [za] at q2; exact q2.elim
        | some d1 =>
          cases zb : b.get E2 with
          | none => simp only [za, zb] at q2; exact q2.elim
          | some d2 =>
            simp only [za, zb] at q2
            cases d1 with
            | str x1 =>
              have e1 := (ar_ok st2 (r1.mono s2) za).str
              cases e1
              have rb := ar_ok st2 r2' zb
              have fin : ∀ (p : Addr) (xs : List V) (ds : List D), u = .ref p → (SqL X.K H2 p xs ∨ SqT X.K H2 p xs) → RepL g F2 ds xs → post g W (relD g) ρ G F2 σ Q (R.some (joinS x ds) E2) →
                  ∃ a p, ∃ ys : List Str, V.str x = .str a ∧ [u] = [.ref p] ∧ (SqL X.K H2 p (ys.map V.str) ∨ SqT X.K H2 p (ys.map V.str)) ∧ (ys.map (·.length)).sum + ys.length * a.length ≤ 16777216 ∧ Q (.str (Txt.join a ys)) H2 := by
                intro p xs ds eu hs rl q3
                subst eu
                unfold joinS at q3
                cases zs : strsD ds with
                | none => simp only [zs] at q3; exact q3.elim
                | some ys =>
                  simp only [zs] at q3
                  by_cases hl : (ys.map (·.length)).sum + ys.length * x.length ≤ 16777216
                  · rw [if_pos hl] at q3
                    have ex := repl_strsD rl zs
                    subst ex
                    exact ⟨x, p, ys, rfl, rfl, hs, hl, q3 (.str (Txt.join x ys)) F2 H2 st2 (Same.refl _) rfl⟩
                  · rw [if_neg hl] at q3; exact q3.elim
              cases d2 with
              | lst ds =>
                obtain ⟨p, xs, eu, hp, rl⟩ := rb.lst st2.sf
                exact fin p xs ds eu (.inl (.of hp)) rl q2
              | tup ds =>
                obtain ⟨p, xs, eu, hp, rl⟩ := rb.tup st2.sf
                exact fin p xs ds eu (.inr (by rw [hK]; exact hp)) rl q2
              | _ => exact q2.elim
            | _ => exact q2.elim
      | _ => exact q1.elim
end
/-! ## runs -/
def strK (Q : Prop) (_ : Tg Q) (o : Option D) : Prop := ∃ s, o = some (.str s) ∧ Q
def wlK (J : Nv → Prop) (Q : Fl → Nv → Prop) (_ : Tg (J, Q)) (fl : Fl) (E : Nv) : Prop := match fl with
  | .nx => J E
  | .ct => J E
  | .bk => Q .nx E
  | fl => Q fl E
def whK (s : Nv → R Fl) (J : Nv → Prop) (Q : Fl → Nv → Prop) (_ : Tg (s, J, Q)) (b : Bool) (E : Nv) : Prop := if b = true then run (wlK J Q ()) () (s E) else Q .nx E
section
variable {E : Nv} {QD : D → Nv → Prop} {QS : Fl → Nv → Prop} {t : Nv → R Bool} {s : Nv → R Fl} {fa fb : Nv → R Ar} {d : D} {J : Nv → Prop}
theorem strK_s {Q : Prop} {g : Tg Q} {x : Str} : strK Q g (some (.str x)) = Q := by
  unfold strK; exact propext ⟨fun ⟨_, _, q⟩ => q, fun q => ⟨_, rfl, q⟩⟩
theorem x_fJoin {g : Tg QD} : run QD g (fJoin fa fb E) = run (fun a E1 => strK (run (fun b E2 => run QD () (R.some (r2 oJoin (a.get E2) (b.get E2)) E2)) () (fb E1)) () (a.get E1)) () (fa E) := by
  unfold run fJoin; rw [wp_bind]; congr; funext a E1
  cases a.get E1 with
  | none => simp [strK, wp]
  | some d =>
    cases d with
    | str x =>
      simp only
      rw [strK_s, wp_bind]; rfl
    | _ => simp [strK, wp]
theorem wlK_nx {g : Tg (J, QS)} : wlK J QS g .nx E = J E := rfl
theorem wlK_ct {g : Tg (J, QS)} : wlK J QS g .ct E = J E := rfl
theorem wlK_bk {g : Tg (J, QS)} : wlK J QS g .bk E = QS .nx E := rfl
theorem wlK_rt {g : Tg (J, QS)} : wlK J QS g (.rt d) E = QS (.rt d) E := rfl
theorem wlK_rn {g : Tg (J, QS)} : wlK J QS g (.rn d) E = QS (.rn d) E := rfl
theorem whK_t {g : Tg (s, J, QS)} : whK s J QS g true E = run (wlK J QS ()) () (s E) := rfl
theorem whK_f {g : Tg (s, J, QS)} : whK s J QS g false E = QS .nx E := rfl
theorem whK_if {g : Tg (s, J, QS)} {b : Bool} (h1 : b = true → run (wlK J QS ()) () (s E)) (h2 : b = false → QS .nx E) : whK s J QS g b E := by
  cases b with
  | true => exact h1 rfl
  | false => exact h2 rfl
theorem while_run' (P : Nat → Nv → Prop) (turn : ∀ k E, P k E → run (whK s (fun E2 => ∃ j, j < k ∧ P j E2) QS ()) () (t E)) : ∀ (n k : Nat) (E : Nv), k < n → P k E → wp (whileN t s n E) QS
  | 0, k, E, hk, _ => absurd hk (by omega)
  | n + 1, k, E, hk, p => by
    rw [whileN, wp_bind]
    have w : wp (t E) _ := turn k E p
    refine wp_imp w fun b E1 q => ?_
    cases b with
    | false => rw [if_neg Bool.false_ne_true]; exact q
    | true =>
      rw [if_pos rfl]
      have q : wp (s E1) (wlK (fun E2 => ∃ j, j < k ∧ P j E2) QS ()) := q
      revert q
      cases s E1 with
      | exc _ _ _ => exact fun q => q.elim
      | bad => exact fun q => q.elim
      | val fl E2 =>
        cases fl with
        | nx => rintro ⟨j, hj, pj⟩; exact while_run' P turn n j E2 (by omega) pj
        | ct => rintro ⟨j, hj, pj⟩; exact while_run' P turn n j E2 (by omega) pj
        | bk => exact fun q => q
        | rt x => exact fun q => q
        | rn x => exact fun q => q
/-- while, by what holds with k turns left at most -/
theorem while_run {n : Nat} {g : Tg QS} (P : Nat → Nv → Prop) (k : Nat) (hk : k < n) (h0 : P k E) (turn : ∀ k E, P k E → run (whK s (fun E2 => ∃ j, j < k ∧ P j E2) QS ()) () (t E)) : run QS g (whileN t s n E) := while_run' P turn n k E hk h0
theorem x_pop {ds : List D} {d : D} : mPop (.lst (ds ++ [d])) [] = some (d, .lst ds) := by
  unfold mPop; simp
theorem x_pop' {ds : List D} {d : D} (h : ds[ds.length - 1]? = some d) : mPop (.lst ds) [] = some (d, .lst ds.dropLast) := by
  unfold mPop; simp only [h]
theorem x_extT {ds es : List D} : mExtend (.lst ds) [.tup es] = if ds.length + es.length ≤ sizeLine then some (.non, .lst (ds ++ es)) else none := rfl
theorem rT3 {x : D} : rIsT (some x) (some [.ty "bool", .ty "int", .ty "str"]) = (tyName x).bind fun t => some (.bl (subTy t "bool" || (subTy t "int" || subTy t "str"))) := by
  have h2 : (3 : Nat) ≤ sizeLine := sl16 (by omega)
  have ht : tyNames [.ty "bool", .ty "int", .ty "str"] = some ["bool", "int", "str"] := by
    unfold tyNames tyNames tyNames tyNames
    simp only [tgs_bool, tgs_int, tgs_str, if_true]
  unfold rIsT
  simp only
  cases tyName x with
  | none => rfl
  | some t => simp [ht, h2]
theorem rT2 {x : D} : rIsT (some x) (some [.ty "int", .ty "str"]) = (tyName x).bind fun t => some (.bl (subTy t "int" || subTy t "str")) := by
  have h2 : (2 : Nat) ≤ sizeLine := sl16 (by omega)
  have ht : tyNames [.ty "int", .ty "str"] = some ["int", "str"] := by
    unfold tyNames tyNames tyNames
    simp only [tgs_int, tgs_str, if_true]
  unfold rIsT
  simp only
  cases tyName x with
  | none => rfl
  | some t => simp [ht, h2]
end
end FL

namespace FL
open PySem PySem.Spec PyProof.Rows L2

/-! ## o.m(..): a method of the class, what is raised wished for at the caller's slots -/
def tMethE (C : Addr) (m : Str) (sp : Sp) (E : L2.St → XK) (ta : TE) (t : TA) : TE := fun σ H Q => ta σ H fun x H1 => ∃ a dx fs, x = .ref a ∧ H1 a = some (.ins C dx fs) ∧ fs.lookup m = none ∧
  t σ H1 fun vs H2 => sp (x :: vs) H2 Q (E σ)
def tFldC (K : PySem.W.Frag) (m : Str) (f : Addr) (sp : Sp) (E : L2.St → XK) (ta : TE) (t : TA) : TE := fun σ H Q => ta σ H fun x H1 => ∃ a C dx fs, x = .ref a ∧ H1 a = some (.ins C dx fs) ∧ Cls K C ∧ NoAttr K C m ∧ fs.lookup m = some (.ref f) ∧
  t σ H1 fun vs H2 => sp vs H2 Q (E σ)
section
variable {X : Cx} {CX : CXT} {k : Nat} {f C : Addr} {fd : FuncData} {ps : List Str} {sp : Sp} {E : L2.St → XK} {m : Str} {p pos apos : Pos} {e o : Expr} {es : List Expr} {ta : TE} {t : TA}
theorem pe_methE {pl : Sem Bool} (he : PE X o ta) (c : Cls X.K C) (hm : Meth X.K C m f) (F : FnOk X.prog X.w X.K X.mg X.base CX k f fd ps sp) (hr : Room k X.A) (hb : Binds X.K fd ps []) (hx : ∀ σ, PassesAt CX X σ (E σ)) (ha : PA X (e :: es) t)
    (hst : starEach (e :: es) X.env = (false, eval e X.env) :: starEach es X.env := by rfl) (hpl : (backTo pos (starEach es X.env)).any (·.1) = false := by rfl)
    (ht : eval (.Call (.Attribute o m apos) (e :: es) [] pos) X.env = (do
      let ov ← eval o X.env
      standAt apos.atName
      let (f, first) ← holding [ov] (getMethod ov m pl)
      callWith pos f first (backTo pos (starEach (e :: es) X.env)) (backToKw pos (keywordEach [] X.env))) := by rfl) :
    PE X (.Call (.Attribute o m apos) (e :: es) [] pos) (tMethE C m sp E ta t) := by
  refine ⟨fun pins s σ H Q I h => ?_⟩
  refine PySem.W.methodCall_KW (pl := pl) (thn (he.run pins s σ H _ I h) fun u s1 ⟨x, H1, I1, rx, a, dx, fs, ex, ea, l, q⟩ => ?_) ht
  subst ex
  obtain rfl : u = Value.ref a := rx
  refine getmeth_ok I1 ea c hm l ?_
  refine PySem.W.callWith_K (first := [.ref a]) (h₀ := X.base) I.ok.mod.kin hm.kp (thn (ha.run pos pins s1 σ H1 _ I1 q) fun us s2 ⟨vs, H2, I2, r, q2⟩ => ⟨I2.kIn, ?_⟩) hst hpl
  exact run_fnS (us := .ref a :: us) (vs := .ref a :: vs) F hr hb (hx σ) I2 (.cons rfl r) q2
/-- a field that holds a function, found as a method is -/
theorem getmeth_fld {A : Around} {E : Value → Shared → Prop} {pins : List (Addr × Obj)} {σ : L2.St} {H : Hp} {s : Shared} {a C dx : Addr} {fs : List (Str × V)} {v : V} {pl : Sem Bool} {Q : Value × List Value → Shared → Prop} (I : Inv X pins σ H s) (e : H a = some (.ins C dx fs)) (c : Cls X.K C) (n : NoAttr X.K C m) (l : fs.lookup m = some v)
    (h : ∀ u s', Inv X pins σ H s' → RelV v u → Q (u, []) s') : wpAny (model X.prog X.w) A (getMethod (.ref a) m pl) Q E s := by
  obtain ⟨mA, O, r, _, _, _⟩ := ins_get I.hok e
  obtain ⟨od, J, hl⟩ := O.look
  have hg := PySem.W.plainGet_of (c.get m)
  have hcan := PySem.F.canon_object_ga
  unfold getMethod specialOf
  refine wpAny_bind (wpAny_bind (J.type.here ((PySem.W.looks_findIn I.kIn hg.1).here ?_)))
  dsimp only
  rw [hcan, if_neg (by decide)]
  refine wpAny_bind (wpAny_bind (J.type.here ((PySem.W.looks_findIn I.kIn hg.2).here ?_)))
  refine wpAny_bind (wpAny_bind (J.type.here ((PySem.W.looks_findIn I.kIn n).here ?_)))
  exact wpAny_bind (getattr_ok I e c n l fun u s' I' ru => wpAny_pure (h u s' I' ru))
theorem pe_fldC {pl : Sem Bool} (he : PE X o ta) (hk : PySem.W.keepIn X.K (.ref f) = true) (F : FnOk X.prog X.w X.K X.mg X.base CX k f fd ps sp) (hr : Room k X.A) (hb : Binds X.K fd ps []) (hx : ∀ σ, PassesAt CX X σ (E σ)) (ha : PA X (e :: es) t)
    (hst : starEach (e :: es) X.env = (false, eval e X.env) :: starEach es X.env := by rfl) (hpl : (backTo pos (starEach es X.env)).any (·.1) = false := by rfl)
    (ht : eval (.Call (.Attribute o m apos) (e :: es) [] pos) X.env = (do
      let ov ← eval o X.env
      standAt apos.atName
      let (f, first) ← holding [ov] (getMethod ov m pl)
      callWith pos f first (backTo pos (starEach (e :: es) X.env)) (backToKw pos (keywordEach [] X.env))) := by rfl) :
    PE X (.Call (.Attribute o m apos) (e :: es) [] pos) (tFldC X.K m f sp E ta t) := by
  refine ⟨fun pins s σ H Q I h => ?_⟩
  refine PySem.W.methodCall_KW (pl := pl) (thn (he.run pins s σ H _ I h) fun u s1 ⟨x, H1, I1, rx, a, C, dx, fs, ex, ea, c, n, l, q⟩ => ?_) ht
  subst ex
  obtain rfl : u = Value.ref a := rx
  refine getmeth_fld I1 ea c n l fun u s1' I1' ru => ?_
  obtain rfl : u = Value.ref f := ru
  refine PySem.W.callWith_K (first := []) (h₀ := X.base) I.ok.mod.kin hk (thn (ha.run pos pins s1' σ H1 _ I1' q) fun us s2 ⟨vs, H2, I2, r, q2⟩ => ⟨I2.kIn, ?_⟩) hst hpl
  exact run_fnS F hr hb (hx σ) I2 r q2
theorem pe_some {ι : Type} {P : ι → Prop} {T : ι → TE} (h : ∀ c, P c → PE X e (T c)) : PE X e (fun σ H Q => ∃ c, P c ∧ T c σ H Q) := ⟨fun pins s σ H Q I ⟨c, hc, q⟩ => (h c hc).run pins s σ H Q I q⟩
end
section
variable {X : Cx} {CX : CXT} {k : Nat} {f C : Addr} {fd : FuncData} {ps : List Str} {sp : Sp} {E : L2.St → XK} {x m : Str} {p pos apos : Pos} {o : Expr} {ta : TE}
theorem pe_callS0 (F : FnOk X.prog X.w X.K X.mg X.base CX k f fd ps sp) (hr : Room k X.A) (hg : Gl X x) (hm : X.mg x = some (.ref f)) (hk : PySem.W.keepIn X.K (.ref f) = true) (hb : Binds X.K fd ps []) (hx : ∀ σ, PassesAt CX X σ (E σ))
    (hdb : (x == ("__debug__" : Str)) = false := by decide) : PE X (.Call (.Name x p) [] [] pos) (tCallS sp E tNil) := by
  refine ⟨fun pins s σ H Q I h => ?_⟩
  refine wpAny_Call_Name_kw (ld_glob I hg hm ?_ hdb)
  exact PySem.W.callWith_K0 I.kIn hk (run_fnS (us := []) F hr hb (hx σ) I .nil h)
end
section
variable {X : Cx} {g : Gm} {W : WX} {e : Expr}
theorem fe_call0 {fn : Fn} (h : PE X e (tCallS (spF g 0 fn) (WE W) tNil)) : FE X g W e (fCall fn (fAs [])) := peImp h fun σ H Q ⟨ρ, G, E, F, st, q⟩ => resC_ok st (show ArsOk g F σ [] [] from rfl) rfl q
theorem fn_call0 {fn : Fn} (h : PE X e (tCallS (spF g 0 fn) (WE W) tNil)) : FN X g W e (fCallN fn (fAs [])) := peImp h fun σ H Q ⟨ρ, G, E, F, st, q⟩ => resCN_ok st (show ArsOk g F σ [] [] from rfl) rfl q
end
/-! ## the same on data -/
def fMeth (cs : List Nat) (tab : Nat → Fn) (m : Str) (fo : Nv → R Ar) (fs : Nv → R (List Ar)) : Nv → R D := fun E => (fo E).bind fun a E1 => match a.get E1 with
  | some (.ins c ns ds) => if cs.contains c = true ∧ (lookD m ns ds).isNone = true ∧ ns.length = ds.length then (fs E1).bind fun as E2 => resC (tab c) (a :: as) E2 else .bad
  | _ => .bad
def fFldC (ks : List Nat) (tab : Nat → Fn) (m : Str) (fo : Nv → R Ar) (fs : Nv → R (List Ar)) : Nv → R D := fun E => (fo E).bind fun a E1 => match a.get E1 with
  | some (.ins c ns ds) => match lookD m ns ds with
    | some (.raw k) => if ks.contains k = true then (fs E1).bind fun as E2 => resC (tab k) as E2 else .bad
    | _ => .bad
  | _ => .bad
theorem lookD_none {m : Str} : ∀ {ns : List Str} {ds : List D} {xs : List V}, ds.length = xs.length → lookD m ns ds = none → (ns.zip xs).lookup m = none
  | [], _, _, _, _ => rfl
  | n :: ns, [], [], _, _ => rfl
  | n :: ns, [], _ :: _, h, _ => by simp at h
  | n :: ns, _ :: _, [], h, _ => by simp at h
  | n :: ns, d :: ds, x :: xs, h, e => by
    unfold lookD at e
    by_cases hm : m = n
    · rw [if_pos hm] at e; cases e
    · rw [if_neg hm] at e
      rw [List.zip_cons_cons, List.lookup_cons]
      have : (m == n) = false := by simpa using hm
      rw [this]
      exact lookD_none (by simpa using h) e
section
variable {X : Cx} {g : Gm} {W : WX} {e : Expr}
theorem fe_meth {cs : List Nat} {tab : Nat → Fn} {m : Str} {fo : Nv → R Ar} {fs : List (Nv → R Ar)} {n : Nat} (c0 : Nat) (h0 : cs.contains c0 = true) (hn : fs.length + 1 = n)
    (h : PE X e (fun σ H Q => ∃ c, cs.contains c = true ∧ tMethE (g.cls c) m (spF g n (tab c)) (WE W) (tG g W (relA g) fo) (tG g W (relAs g) (fAs fs)) σ H Q)) : FE X g W e (fMeth cs tab m fo (fAs fs)) := peImp h fun σ H Q ⟨ρ, G, E, F, st, q⟩ => by
  unfold fMeth at q
  revert q
  cases z : fo E with
  | bad => exact fun q => q.elim
  | exc c fs' E' =>
    intro q
    exact ⟨c0, h0, ρ, G, E, F, st, by rw [z]; exact q⟩
  | val a E1 =>
    intro q
    have q : post g W (relD g) ρ G F σ Q (match a.get E1 with
      | some (.ins c ns ds) => if cs.contains c = true ∧ (lookD m ns ds).isNone = true ∧ ns.length = ds.length then ((fAs fs) E1).bind fun as E2 => resC (tab c) (a :: as) E2 else .bad
      | _ => .bad) := q
    cases za : a.get E1 with
    | none => simp only [za] at q; exact q.elim
    | some d =>
      simp only [za] at q
      cases d with
      | ins c ns ds =>
        simp only at q
        by_cases hc : cs.contains c = true ∧ (lookD m ns ds).isNone = true ∧ ns.length = ds.length
        · rw [if_pos hc] at q
          refine ⟨c, hc.1, ρ, G, E, F, st, ?_⟩
          rw [z]
          intro v F1 H1 st1 s1 r1
          obtain ⟨p, dx, xs, rfl, hp, hl, rl⟩ := (ar_ok st1 r1 za).ins st1.sf
          refine ⟨p, dx, _, rfl, hp, lookD_none rl.length (by simpa using hc.2.1), ?_⟩
          refine bindA st1 (post.mono s1 q) fun as E2 vs F2 H2 la st2 s2 r2 q2 => ?_
          exact resC_ok st2 (show ArsOk g F2 σ (a :: as) _ from ⟨_, _, rfl, ArOk.mono s2 r1, r2⟩) (by rw [List.length_cons, ← r2.length, la, hn]) q2
        · rw [if_neg hc] at q; exact q.elim
      | _ => exact q.elim
theorem fe_fldC {ks : List Nat} {tab : Nat → Fn} {fa : Nat → Addr} {m : Str} {fo : Nv → R Ar} {fs : List (Nv → R Ar)} {n : Nat} (k0 : Nat) (h0 : ks.contains k0 = true) (hn : fs.length = n) (hK : X.K = g.K) (hc : ∀ c, Cls g.K (g.cls c)) (hm : ∀ c, NoAttr g.K (g.cls c) m)
    (hr : ∀ k, ks.contains k = true → g.raw k = .ref (fa k))
    (h : PE X e (fun σ H Q => ∃ k, ks.contains k = true ∧ tFldC X.K m (fa k) (spF g n (tab k)) (WE W) (tG g W (relA g) fo) (tG g W (relAs g) (fAs fs)) σ H Q)) : FE X g W e (fFldC ks tab m fo (fAs fs)) := peImp h fun σ H Q ⟨ρ, G, E, F, st, q⟩ => by
  unfold fFldC at q
  revert q
  cases z : fo E with
  | bad => exact fun q => q.elim
  | exc c fs' E' =>
    intro q
    exact ⟨k0, h0, ρ, G, E, F, st, by rw [z]; exact q⟩
  | val a E1 =>
    intro q
    have q : post g W (relD g) ρ G F σ Q (match a.get E1 with
      | some (.ins c ns ds) => match lookD m ns ds with
        | some (.raw k) => if ks.contains k = true then ((fAs fs) E1).bind fun as E2 => resC (tab k) as E2 else .bad
        | _ => .bad
      | _ => .bad) := q
    cases za : a.get E1 with
    | none => simp only [za] at q; exact q.elim
    | some d =>
      simp only [za] at q
      cases d with
      | ins c ns ds =>
        simp only at q
        cases zl : lookD m ns ds with
        | none => simp only [zl] at q; exact q.elim
        | some y =>
          simp only [zl] at q
          cases y with
          | raw k =>
            simp only at q
            by_cases hk : ks.contains k = true
            · rw [if_pos hk] at q
              refine ⟨k, hk, ρ, G, E, F, st, ?_⟩
              rw [z]
              intro v F1 H1 st1 s1 r1
              obtain ⟨p, dx, xs, rfl, hp, hl, rl⟩ := (ar_ok st1 r1 za).ins st1.sf
              obtain ⟨w, a1, a2⟩ := lookD_ok rl zl
              have a2 : w = g.raw k := a2
              rw [a2, hr k hk] at a1
              refine ⟨p, g.cls c, dx, _, rfl, hp, by rw [hK]; exact hc c, by rw [hK]; exact hm c, a1, ?_⟩
              refine bindA st1 (post.mono s1 q) fun as E2 vs F2 H2 la st2 s2 r2 q2 => ?_
              exact resC_ok st2 r2 (by rw [← r2.length, la, hn]) q2
            · rw [if_neg hk] at q; exact q.elim
          | _ => exact q.elim
      | _ => exact q.elim
end
/-! ## runs -/
def mthK (cs : List Nat) (tab : Nat → Fn) (m : Str) (fl : Nv → R (List Ar)) (a : Ar) (Q : D → Nv → Prop) (_ : Tg (tab, fl, Q)) (E : Nv) (o : Option D) : Prop := match o with
  | some (.ins c ns ds) => cs.contains c = true ∧ (lookD m ns ds).isNone = true ∧ ns.length = ds.length ∧ run (fun as E2 => calK (tab c) (a :: as) Q () E2 (lend E2 0 (a :: as))) () (fl E)
  | _ => False
def fldK (ks : List Nat) (tab : Nat → Fn) (fl : Nv → R (List Ar)) (Q : D → Nv → Prop) (_ : Tg (tab, fl, Q)) (E : Nv) (o : Option D) : Prop := match o with
  | some (.raw k) => ks.contains k = true ∧ run (fun as E2 => calK (tab k) as Q () E2 (lend E2 0 as)) () (fl E)
  | _ => False
section
variable {E : Nv} {QD : D → Nv → Prop} {fo : Nv → R Ar} {fl : Nv → R (List Ar)} {cs : List Nat} {tab : Nat → Fn} {m : Str} {a : Ar}
theorem x_fMeth {g : Tg QD} : run QD g (fMeth cs tab m fo fl E) = run (fun a E1 => mthK cs tab m fl a QD () E1 (a.get E1)) () (fo E) := by
  unfold run fMeth; rw [wp_bind]; congr; funext a E1
  cases a.get E1 with
  | none => simp [mthK, wp]
  | some d =>
    cases d with
    | ins c ns ds =>
      simp only [mthK]
      by_cases hc : cs.contains c = true ∧ (lookD m ns ds).isNone = true ∧ ns.length = ds.length
      · rw [if_pos hc, wp_bind]
        have e : ∀ P : Prop, P = (cs.contains c = true ∧ (lookD m ns ds).isNone = true ∧ ns.length = ds.length ∧ P) := fun P => propext ⟨fun p => ⟨hc.1, hc.2.1, hc.2.2, p⟩, fun p => p.2.2.2⟩
        rw [← e]
        unfold run; congr; funext as E2
        rw [← run_resC (g := ())]; rfl
      · rw [if_neg hc]
        exact propext ⟨fun p => p.elim, fun p => (hc ⟨p.1, p.2.1, p.2.2.1⟩).elim⟩
    | _ => simp [mthK, wp]
theorem mthK_s {c : Nat} {ns : List Str} {ds : List D} {g : Tg (tab, fl, QD)} : mthK cs tab m fl a QD g E (some (.ins c ns ds)) = (cs.contains c = true ∧ (lookD m ns ds).isNone = true ∧ ns.length = ds.length ∧ run (fun as E2 => calK (tab c) (a :: as) QD () E2 (lend E2 0 (a :: as))) () (fl E)) := rfl
theorem x_fFldC {g : Tg QD} : run QD g (fFldC cs tab m fo fl E) = run (fun a E1 => fldK cs tab fl QD () E1 (rFld m (a.get E1))) () (fo E) := by
  unfold run fFldC; rw [wp_bind]; congr; funext a E1
  cases a.get E1 with
  | none => simp [fldK, rFld, wp]
  | some d =>
    cases d with
    | ins c ns ds =>
      simp only [rFld]
      cases lookD m ns ds with
      | none => simp [fldK, wp]
      | some y =>
        cases y with
        | raw k =>
          simp only [fldK]
          by_cases hk : cs.contains k = true
          · rw [if_pos hk, wp_bind]
            simp only [hk, true_and]
            unfold run; congr; funext as E2
            rw [← run_resC (g := ())]; rfl
          · rw [if_neg hk]; exact propext ⟨fun p => p.elim, fun p => (hk p.1).elim⟩
        | _ => simp [fldK, wp]
    | _ => simp [fldK, rFld, wp]
theorem fldK_s {k : Nat} {g : Tg (tab, fl, QD)} : fldK cs tab fl QD g E (some (.raw k)) = (cs.contains k = true ∧ run (fun as E2 => calK (tab k) as QD () E2 (lend E2 0 as)) () (fl E)) := rfl
end
end FL

namespace Law
open PySem PySem.Spec PyProof.Rows L2 FL
def topS (i : Nat) : Stmt := PySem.Challenge.pw_turnedtalk_k11_whole_faults.main.body.getD i (.Pass ⟨0, 0, 0, 0⟩)
def tst_BadFaults : Nat → Bool := fun c => match c with | 1 => true | _ => false
def tst_TalkError : Nat → Bool := fun c => match c with | 1 => true | _ => true
def tst_ValueError : Nat → Bool := fun c => match c with | 1 => true | _ => true
abbrev s_is_integer : Stmt := topS 1
abbrev N_is_integer : List Str := ["thing"]
noncomputable def body_is_integer : Nv → R Fl := fRet (fAnd (fOpL (oIsi 2) (fAs [fPk 0, fV (fC (.ty "int"))])) (fNot (fOpL (oIsi 2) (fAs [fPk 0, fV (fC (.ty "bool"))]))))
noncomputable def sem_is_integer : Fn := runF 1 body_is_integer
abbrev s_is_sized : Stmt := topS 3
abbrev N_is_sized : List Str := ["thing", "low", "high"]
noncomputable def body_is_sized : Nv → R Fl := fRet (fAnd (fOpL (oIsi 2) (fAs [fPk 0, fV (fC (.ty "tuple"))])) (fChain oLe oLe (fPk 1) (fV (fOpL oLen (fAs [fPk 0]))) (fPk 2)))
noncomputable def sem_is_sized : Fn := runF 3 body_is_sized
abbrev s_is_leaf : Stmt := topS 5
abbrev N_is_leaf : List Str := ["thing"]
noncomputable def body_is_leaf : Nv → R Fl := fRet (fOr (fOp2 oIsN (fPk 0) (fV (fC .non))) (fIsiT (fPk 0) (fAs [fV (fC (.ty "bool")), fV (fC (.ty "int")), fV (fC (.ty "str"))])))
noncomputable def sem_is_leaf : Fn := runF 1 body_is_leaf
abbrev s_BadFaults___init__ : Stmt := inClass (topS 9) 0
abbrev N_BadFaults___init__ : List Str := ["self", "part"]
abbrev s_Faults___eq__ : Stmt := inClass (topS 14) 1
abbrev N_Faults___eq__ : List Str := ["self", "thing"]
noncomputable def body_Faults___eq__ : Nv → R Fl := fRet (fAnd (fOpL (oIsi 2) (fAs [fPk 1, fV (fC (.cls 0))])) (fAnd (fOp2 oEq (fV (fFld "lost" (fPk 0))) (fV (fFld "lost" (fPk 1)))) (fOp2 oEq (fV (fFld "turned" (fPk 0))) (fV (fFld "turned" (fPk 1))))))
noncomputable def sem_Faults___eq__ : Fn := runF 2 body_Faults___eq__
abbrev s_Faults_ear : Stmt := inClass (topS 14) 2
abbrev N_Faults_ear : List Str := ["self", "letter", "thing", "number", "other"]
noncomputable def body_Faults_ear : Nv → R Fl := fSeq (fIf (fTest (fOp2 oIn (fPk 1) (fV (fFld "lost" (fPk 0))))) (fRet (fOpV oTupD (fAs []))) (fNx)) (fSeq (fFor (iAnyF (fFld "turned" (fPk 0))) (bTup [bName 3, bName 4]) (fIf (fTest (fOp2 oEq (fPk 3) (fPk 1))) (fRet (fOpV oTupD (fAs [fV (fVar 4)]))) (fNx))) (fRet (fOpV oTupD (fAs [fV (fVar 2)]))))
noncomputable def sem_Faults_ear : Fn := runF 5 body_Faults_ear
abbrev s_Hearing___init__ : Stmt := inClass (topS 15) 0
abbrev N_Hearing___init__ : List Str := ["self", "hearing"]
noncomputable def body_Hearing___init__ : Nv → R Fl := fSetFld 0 "hearing" (fVar 1)
noncomputable def sem_Hearing___init__ : Fn := runF 2 body_Hearing___init__
abbrev s__law_hand : Stmt := topS 17
abbrev N__law_hand : List Str := ["script", "cells", "cell"]
noncomputable def body__law_hand : Nv → R Fl := fSeq (fSetN 1 (fLc (iAnyF (fSl (fPk 0) (pNone) (pSome (fC (.int 63))))) (bName 2) (tYesF) (fOpL oAbs (fAs [fV (fOpL oInt (fAs [fPk 2]))])) [2])) (fRetN (fOpV oLstD (fAs [fV (fVar 1), fV (fC (.int 0)), fV (fC (.int 0)), fV (fOp2 oAdd (fV (fC (.int 1))) (fV (fOpL oLen (fAs [fPk 1])))), fV (fC (.int 0))])))
noncomputable def sem__law_hand : Fn := runF 3 body__law_hand
abbrev s__law_draw : Stmt := topS 18
abbrev N__law_draw : List Str := ["hand", "many", "number", "cell", "digit"]
noncomputable def body__law_draw : Nv → R Fl := fSeq (fIf (tAndF (fTest (fOp2 oEq (fV (fOp2 oIx (fPk 0) (fV (fC (.int 2))))) (fV (fC (.int 0))))) (fTest (fOp2 oLt (fV (fOp2 oIx (fPk 0) (fV (fC (.int 1))))) (fV (fOpL oLen (fAs [fV (fOp2 oIx (fPk 0) (fV (fC (.int 0))))])))))) (fSeq (fSet 3 (fOp2 oIx (fV (fOp2 oIx (fPk 0) (fV (fC (.int 0))))) (fV (fOp2 oIx (fPk 0) (fV (fC (.int 1))))))) (fSeq (fSetIx 0 (fC (.int 1)) (fOp2 oAdd (fV (fOp2 oIx (fPk 0) (fV (fC (.int 1))))) (fV (fC (.int 1))))) (fSeq (fSetIx 0 (fC (.int 3)) (fOp2 oMod (fV (fOpL oInt (fAs [fV (fOp2 oAdd (fV (fOp2 oAdd (fV (fOp2 oMul (fV (fOp2 oIx (fPk 0) (fV (fC (.int 3))))) (fV (fC (.int 69621))))) (fPk 3))) (fV (fC (.int 11))))]))) (fV (fC (.int 2147483629))))) (fIf (fTest (fOp2 oGe (fPk 3) (fV (fOp2 oPow (fV (fC (.int 10))) (fV (fC (.int 18))))))) (fSetIx 0 (fC (.int 2)) (fVar 3)) (fNx))))) (fNx)) (fSeq (fIf (fTest (fOp2 oGt (fV (fOp2 oIx (fPk 0) (fV (fC (.int 2))))) (fV (fC (.int 0))))) (fSeq (fSet 4 (fOp2 oMod (fV (fOpL oInt (fAs [fV (fOp2 oIx (fPk 0) (fV (fC (.int 2))))]))) (fPk 1))) (fSeq (fSetIx 0 (fC (.int 2)) (fOp2 oDiv (fV (fOp2 oIx (fPk 0) (fV (fC (.int 2))))) (fPk 1))) (fRet (fVar 4)))) (fNx)) (fSeq (fSetIx 0 (fC (.int 4)) (fOp2 oAdd (fV (fOp2 oIx (fPk 0) (fV (fC (.int 4))))) (fV (fC (.int 1))))) (fSeq (fSet 2 (fOp2 oMod (fV (fOpL oInt (fAs [fV (fOp2 oMul (fV (fOpL oInt (fAs [fV (fOp2 oAdd (fV (fOp2 oIx (fPk 0) (fV (fC (.int 3))))) (fV (fOp2 oMul (fV (fC (.int 7919))) (fV (fOp2 oIx (fPk 0) (fV (fC (.int 4))))))))]))) (fV (fC (.int 48271))))]))) (fV (fC (.int 2147483647))))) (fSeq (fSet 2 (fOp2 oMod (fV (fOpL oInt (fAs [fV (fOp2 oMul (fPk 2) (fV (fOp2 oAdd (fV (fOp2 oDiv (fPk 2) (fV (fC (.int 1009))))) (fV (fC (.int 69621))))))]))) (fV (fC (.int 2147483647))))) (fSeq (fSet 2 (fOp2 oMod (fV (fOpL oInt (fAs [fV (fOp2 oMul (fPk 2) (fV (fOp2 oAdd (fV (fOp2 oDiv (fPk 2) (fV (fC (.int 2003))))) (fV (fC (.int 40692))))))]))) (fV (fC (.int 2147483399))))) (fRet (fOp2 oMod (fV (fOpL oInt (fAs [fV (fOp2 oDiv (fPk 2) (fV (fC (.int 16))))]))) (fPk 1))))))))
noncomputable def sem__law_draw : Fn := runF 5 body__law_draw
abbrev s__law_is : Stmt := topS 20
abbrev N__law_is : List Str := ["told", "due", "k"]
noncomputable def body__law_is (self : Fn) : Nv → R Fl := fSeq (fIf (fTest (fIsiT (fPk 1) (fAs [fV (fC (.ty "tuple")), fV (fC (.ty "list"))]))) (fSeq (fIf (tOrF (fTest (fOp2 oNe (fV (fOpL (oIsi 2) (fAs [fPk 0, fV (fC (.ty "tuple"))]))) (fV (fOpL (oIsi 2) (fAs [fPk 1, fV (fC (.ty "tuple"))]))))) (fTest (fOp2 oNe (fV (fOpL (oIsi 2) (fAs [fPk 0, fV (fC (.ty "list"))]))) (fV (fOpL (oIsi 2) (fAs [fPk 1, fV (fC (.ty "list"))])))))) (fRet (fC (.bl false))) (fNx)) (fRet (fAnd (fOp2 oEq (fV (fOpL oLen (fAs [fPk 0]))) (fV (fOpL oLen (fAs [fPk 1])))) (fOpL oAll (fAs [fV (fLc (iRng (fAs [fV (fOpL oLen (fAs [fPk 1]))])) (bName 2) (tYesF) (fCall self (fAs [fV (fOp2 oIx (fPk 0) (fPk 2)), fV (fOp2 oIx (fPk 1) (fPk 2))])) [2])]))))) (fNx)) (fSeq (fIf (tOrF (fTest (fOp2 oIsN (fPk 1) (fV (fC .non)))) (fTest (fOp2 oIsN (fPk 0) (fV (fC .non))))) (fRet (fAnd (fOp2 oIsN (fPk 1) (fV (fC .non))) (fOp2 oIsN (fPk 0) (fV (fC .non))))) (fNx)) (fSeq (fIf (tOrF (fTest (fOp2 oNe (fV (fOpL (oIsi 2) (fAs [fPk 0, fV (fC (.ty "bool"))]))) (fV (fOpL (oIsi 2) (fAs [fPk 1, fV (fC (.ty "bool"))]))))) (fTest (fOp2 oNe (fV (fOpL (oIsi 2) (fAs [fPk 0, fV (fC (.ty "int"))]))) (fV (fOpL (oIsi 2) (fAs [fPk 1, fV (fC (.ty "int"))])))))) (fRet (fC (.bl false))) (fNx)) (fRet (fAnd (fOp2 oEq (fV (fOpL (oIsi 2) (fAs [fPk 0, fV (fC (.ty "str"))]))) (fV (fOpL (oIsi 2) (fAs [fPk 1, fV (fC (.ty "str"))])))) (fOp2 oEq (fPk 0) (fPk 1))))))
noncomputable def sem__law_is : Nat → Fn
  | 0 => fn0
  | n + 1 => runF 3 (body__law_is (sem__law_is n))
abbrev s__law_signs : Stmt := topS 21
abbrev N__law_signs : List Str := []
noncomputable def body__law_signs : Nv → R Fl := fRet (fC (.str " !#$&()*+,-/0123456789:;<=>?@ABCDEFGHIJKLMNOPQRSTUVWXYZ[]^_abcdefghijklmnopqrstuvwxyz{|}~\"'\\."))
noncomputable def sem__law_signs : Fn := runF 0 body__law_signs
abbrev s__law_is_number : Stmt := topS 23
abbrev N__law_is_number : List Str := ["thing", "many"]
noncomputable def body__law_is_number : Nv → R Fl := fRet (fAnd (fOpL (oIsi 2) (fAs [fPk 0, fV (fC (.ty "int"))])) (fAnd (fNot (fOpL (oIsi 2) (fAs [fPk 0, fV (fC (.ty "bool"))]))) (fChain oLe oLt (fV (fC (.int 0))) (fPk 0) (fPk 1))))
noncomputable def sem__law_is_number : Fn := runF 2 body__law_is_number
abbrev s__law_is_thing : Stmt := topS 24
abbrev N__law_is_thing : List Str := ["thing", "pile", "one"]
noncomputable def body__law_is_thing : Nv → R Fl := fSeq (fSetN 1 (fOpV oLstD (fAs [fV (fVar 0)]))) (fSeq (whileN (fTest (fOp2 oGt (fV (fOpL oLen (fAs [fPk 1]))) (fV (fC (.int 0))))) (fSeq (fSet 2 (fMt 1 mPop (fAs []))) (fIf (fTest (fOpL (oIsi 2) (fAs [fPk 2, fV (fC (.ty "tuple"))]))) (fDrop (fMt 1 mExtend (fAs [fV (fOpL oList (fAs [fPk 2]))]))) (fIf (tAndF (fTest (fOp2 oNotN (fPk 2) (fV (fC .non)))) (tNotF (fTest (fIsiT (fPk 2) (fAs [fV (fC (.ty "int")), fV (fC (.ty "str"))]))))) (fRet (fC (.bl false))) (fNx)))) 1000000) (fRet (fC (.bl true))))
noncomputable def sem__law_is_thing : Fn := runF 3 body__law_is_thing
abbrev s__law_wrapped : Stmt := topS 26
abbrev N__law_wrapped : List Str := ["thing", "many", "kind", "turn"]
noncomputable def body__law_wrapped : Nv → R Fl := fSeq (fFor (iRng (fAs [fV (fVar 1)])) (bName 3) (fSet 0 (fIf (fTest (fOp2 oEq (fPk 2) (fV (fC (.int 0))))) (fOpV oTupD (fAs [fV (fVar 0)])) (fOpV oLstD (fAs [fV (fVar 0)]))))) (fRet (fVar 0))
noncomputable def sem__law_wrapped : Fn := runF 4 body__law_wrapped
abbrev s__law_ear : Stmt := topS 31
abbrev N__law_ear : List Str := ["letter", "thing"]
noncomputable def body__law_ear : Nv → R Fl := fRet (fIf (fTest (fOp2 oEq (fV (fOp2 oMod (fV (fOpL oInt (fAs [fPk 0]))) (fV (fC (.int 3))))) (fV (fC (.int 0))))) (fOpV oTupD (fAs [])) (fOpV oTupD (fAs [fV (fOpV oTupD (fAs [fV (fVar 0), fV (fVar 1)]))])))
noncomputable def sem__law_ear : Fn := runF 2 body__law_ear
abbrev s__law_twin : Stmt := topS 33
abbrev N__law_twin : List Str := ["thing", "one"]
noncomputable def body__law_twin (self : Fn) : Nv → R Fl := fSeq (fIf (tOrF (fTest (fOp2 oIsB (fPk 0) (fV (fC (.bl true))))) (fTest (fOp2 oIsB (fPk 0) (fV (fC (.bl false)))))) (fRet (fIf (fTest (fOp2 oIsB (fPk 0) (fV (fC (.bl true))))) (fC (.int 1)) (fC (.int 0)))) (fNx)) (fSeq (fIf (tAndF (fTest (fOpL (oIsi 2) (fAs [fPk 0, fV (fC (.ty "int"))]))) (tOrF (fTest (fOp2 oEq (fPk 0) (fV (fC (.int 0))))) (fTest (fOp2 oEq (fPk 0) (fV (fC (.int 1))))))) (fRet (fOp2 oEq (fPk 0) (fV (fC (.int 1))))) (fNx)) (fSeq (fIf (fTest (fOpL (oIsi 2) (fAs [fPk 0, fV (fC (.ty "tuple"))]))) (fRet (fOpL oTuple (fAs [fV (fLc (iAnyF (fVar 0)) (bName 1) (tYesF) (fCall self (fAs [fV (fVar 1)])) [1])]))) (fNx)) (fRet (fVar 0))))
noncomputable def sem__law_twin : Nat → Fn
  | 0 => fn0
  | n + 1 => runF 2 (body__law_twin (sem__law_twin n))
abbrev s_is_between : Stmt := topS 2
abbrev N_is_between : List Str := ["thing", "low", "high"]
noncomputable def body_is_between : Nv → R Fl := fRet (fAnd (fCall sem_is_integer (fAs [fV (fVar 0)])) (fChain oLe oLe (fPk 1) (fPk 0) (fPk 2)))
noncomputable def sem_is_between : Fn := runF 3 body_is_between
abbrev s_is_thing : Stmt := topS 6
abbrev N_is_thing : List Str := ["thing", "left", "here"]
noncomputable def body_is_thing : Nv → R Fl := fSeq (fSetN 1 (fOpV oLstD (fAs [fV (fVar 0)]))) (fSeq (whileN (fTest (fOp2 oGt (fV (fOpL oLen (fAs [fPk 1]))) (fV (fC (.int 0))))) (fSeq (fSet 2 (fMt 1 mPop (fAs []))) (fIf (fTest (fOpL (oIsi 2) (fAs [fPk 2, fV (fC (.ty "tuple"))]))) (fDrop (fMt 1 mExtend (fAs [fV (fVar 2)]))) (fIf (tNotF (fTest (fCall sem_is_leaf (fAs [fV (fVar 2)])))) (fRet (fC (.bl false))) (fNx)))) 1000000) (fRet (fC (.bl true))))
noncomputable def sem_is_thing : Fn := runF 3 body_is_thing
abbrev s_Hearing_ear : Stmt := inClass (topS 15) 1
abbrev N_Hearing_ear : List Str := ["self", "letter", "thing"]
noncomputable def body_Hearing_ear : Nv → R Fl := fRet (fFldC [0] (fun k => match k with | 0 => sem__law_ear | _ => fn0) "hearing" (fPk 0) (fAs [fV (fVar 1), fV (fVar 2)]))
noncomputable def sem_Hearing_ear : Fn := runF 3 body_Hearing_ear
abbrev s__law_some : Stmt := topS 19
abbrev N__law_some : List Str := ["hand", "things"]
noncomputable def body__law_some : Nv → R Fl := fRet (fOp2 oIx (fPk 1) (fV (fCall sem__law_draw (fAs [fPk 0, fV (fOpL oLen (fAs [fPk 1]))]))))
noncomputable def sem__law_some : Fn := runF 2 body__law_some
abbrev s__law_rising : Stmt := topS 27
abbrev N__law_rising : List Str := ["thing", "at"]
noncomputable def body__law_rising : Nv → R Fl := fSeq (fIf (tNotF (fTest (fOpL (oIsi 2) (fAs [fPk 0, fV (fC (.ty "tuple"))])))) (fRet (fC (.bl false))) (fNx)) (fSeq (fFor (iRng (fAs [fV (fOpL oLen (fAs [fPk 0]))])) (bName 1) (fIf (tOrF (tNotF (fTest (fCall sem__law_is_number (fAs [fV (fOp2 oIx (fPk 0) (fPk 1)), fV (fC (.int 60))])))) (tAndF (fTest (fOp2 oGt (fPk 1) (fV (fC (.int 0))))) (fTest (fOp2 oLe (fV (fOp2 oIx (fPk 0) (fPk 1))) (fV (fOp2 oIx (fPk 0) (fV (fOp2 oSub (fPk 1) (fV (fC (.int 1))))))))))) (fRet (fC (.bl false))) (fNx))) (fRet (fC (.bl true))))
noncomputable def sem__law_rising : Fn := runF 2 body__law_rising
abbrev s_is_lot : Stmt := topS 4
abbrev N_is_lot : List Str := ["thing", "below", "one", "other"]
noncomputable def body_is_lot : Nv → R Fl := fSeq (fIf (tOrF (tNotF (fTest (fOpL (oIsi 2) (fAs [fPk 0, fV (fC (.ty "tuple"))])))) (tNotF (fTest (fOpL oAll (fAs [fV (fLc (iAnyF (fVar 0)) (bName 2) (tYesF) (fCall sem_is_between (fAs [fV (fVar 2), fV (fC (.int 0)), fV (fOp2 oSub (fPk 1) (fV (fC (.int 1))))])) [2])]))))) (fRet (fC (.bl false))) (fNx)) (fRet (fOpL oAll (fAs [fV (fLc (iZip (fAs [fV (fVar 0), fV (fSl (fPk 0) (pSome (fC (.int 1))) (pNone))])) (bTup [bName 2, bName 3]) (tYesF) (fOp2 oLt (fPk 2) (fPk 3)) [2, 3])])))
noncomputable def sem_is_lot : Fn := runF 4 body_is_lot
abbrev s_is_turn : Stmt := topS 12
abbrev N_is_turn : List Str := ["thing"]
noncomputable def body_is_turn : Nv → R Fl := fRet (fAnd (fCall sem_is_sized (fAs [fV (fVar 0), fV (fC (.int 2)), fV (fC (.int 2))])) (fAnd (fCall sem_is_between (fAs [fV (fOp2 oIx (fPk 0) (fV (fC (.int 0)))), fV (fC (.int 0)), fV (fOp2 oSub (fV (fC (.int 60))) (fV (fC (.int 1))))])) (fCall sem_is_thing (fAs [fV (fOp2 oIx (fPk 0) (fV (fC (.int 1))))]))))
noncomputable def sem_is_turn : Fn := runF 1 body_is_turn
abbrev s__law_word : Stmt := topS 22
abbrev N__law_word : List Str := ["hand", "signs", "many", "turn"]
noncomputable def body__law_word : Nv → R Fl := fSeq (fAsg (fOpV oTupD (fAs [fV (fCall sem__law_signs (fAs [])), fV (fCall sem__law_some (fAs [fPk 0, fV (fOpV oLstD (fAs [fV (fC (.int 0)), fV (fC (.int 1)), fV (fC (.int 1)), fV (fC (.int 2)), fV (fC (.int 3)), fV (fC (.int 5)), fV (fC (.int 40))]))]))])) (bTup [bName 1, bName 2])) (fRet (fJoin (fV (fC (.str ""))) (fV (fLc (iRng (fAs [fV (fVar 2)])) (bName 3) (tYesF) (fCall sem__law_some (fAs [fPk 0, fV (fVar 1)])) [3]))))
noncomputable def sem__law_word : Fn := runF 4 body__law_word
abbrev s__law_part : Stmt := topS 28
abbrev N__law_part : List Str := ["gone", "turns", "at", "one"]
noncomputable def body__law_part : Nv → R Fl := fSeq (fIf (tNotF (fTest (fCall sem__law_rising (fAs [fV (fVar 0)])))) (fRet (fC (.str "lost"))) (fNx)) (fSeq (fIf (tNotF (fTest (fOpL (oIsi 2) (fAs [fPk 1, fV (fC (.ty "tuple"))])))) (fRet (fC (.str "turned"))) (fNx)) (fSeq (fFor (iRng (fAs [fV (fOpL oLen (fAs [fPk 1]))])) (bName 2) (fSeq (fSet 3 (fOp2 oIx (fPk 1) (fPk 2))) (fSeq (fIf (tOrF (tNotF (fTest (fOpL (oIsi 2) (fAs [fPk 3, fV (fC (.ty "tuple"))])))) (tOrF (fTest (fOp2 oNe (fV (fOpL oLen (fAs [fPk 3]))) (fV (fC (.int 2))))) (tNotF (fTest (fCall sem__law_is_number (fAs [fV (fOp2 oIx (fPk 3) (fV (fC (.int 0)))), fV (fC (.int 60))])))))) (fRet (fVar 2)) (fNx)) (fIf (tOrF (tNotF (fTest (fCall sem__law_is_thing (fAs [fV (fOp2 oIx (fPk 3) (fV (fC (.int 1))))])))) (tOrF (tAndF (fTest (fOp2 oGt (fPk 2) (fV (fC (.int 0))))) (fTest (fOp2 oLe (fV (fOp2 oIx (fPk 3) (fV (fC (.int 0))))) (fV (fOp2 oIx (fV (fOp2 oIx (fPk 1) (fV (fOp2 oSub (fPk 2) (fV (fC (.int 1))))))) (fV (fC (.int 0)))))))) (fTest (fOp2 oIn (fV (fOp2 oIx (fPk 3) (fV (fC (.int 0))))) (fPk 0))))) (fRet (fVar 2)) (fNx))))) (fRet (fC (.str "let")))))
noncomputable def sem__law_part : Fn := runF 4 body__law_part
abbrev s_first_wrong : Stmt := topS 13
abbrev N_first_wrong : List Str := ["lost", "turned", "number", "pair"]
noncomputable def body_first_wrong : Nv → R Fl := fSeq (fFor (iEnumF (fAs [fV (fVar 1)])) (bTup [bName 2, bName 3]) (fIf (tOrF (tNotF (fTest (fCall sem_is_turn (fAs [fV (fVar 3)])))) (tOrF (fTest (fOp2 oIn (fV (fOp2 oIx (fPk 3) (fV (fC (.int 0))))) (fPk 0))) (tAndF (fTest (fOp2 oGt (fPk 2) (fV (fC (.int 0))))) (fTest (fOp2 oLe (fV (fOp2 oIx (fPk 3) (fV (fC (.int 0))))) (fV (fOp2 oIx (fV (fOp2 oIx (fPk 1) (fV (fOp2 oSub (fPk 2) (fV (fC (.int 1))))))) (fV (fC (.int 0)))))))))) (fRet (fVar 2)) (fNx))) (fRet (fC .non))
noncomputable def sem_first_wrong : Fn := runF 4 body_first_wrong
abbrev s__law_thing : Stmt := topS 25
abbrev N__law_thing : List Str := ["hand", "deep", "kind", "turn"]
noncomputable def body__law_thing (self : Fn) : Nv → R Fl := fSeq (fSet 2 (fCall sem__law_draw (fAs [fPk 0, fV (fIf (fTest (fOp2 oGt (fPk 1) (fV (fC (.int 0))))) (fC (.int 9)) (fC (.int 6)))]))) (fSeq (fIf (fTest (fOp2 oLt (fPk 2) (fV (fC (.int 3))))) (fRet (fCall sem__law_some (fAs [fPk 0, fV (fOpV oLstD (fAs [fV (fC .non), fV (fC (.bl true)), fV (fC (.bl false)), fV (fC (.int 0)), fV (fC (.int 1)), fV (fNeg (fC (.int 1))), fV (fOp2 oSub (fV (fOp2 oPow (fV (fC (.int 10))) (fV (fC (.int 20))))) (fV (fC (.int 1)))), fV (fOp2 oSub (fV (fC (.int 1))) (fV (fOp2 oPow (fV (fC (.int 10))) (fV (fC (.int 20)))))), fV (fC (.str "\n")), fV (fC (.str "")), fV (fOpV oTupD (fAs [])), fV (fOpV oTupD (fAs [fV (fC (.int 0))])), fV (fOpV oTupD (fAs [fV (fC (.bl false))]))]))]))) (fNx)) (fSeq (fIf (fTest (fOp2 oLt (fPk 2) (fV (fC (.int 6))))) (fRet (fIf (fTest (fOp2 oLt (fPk 2) (fV (fC (.int 5))))) (fCall sem__law_word (fAs [fPk 0])) (fOp2 oSub (fV (fCall sem__law_draw (fAs [fPk 0, fV (fC (.int 1000))]))) (fV (fC (.int 500)))))) (fNx)) (fRet (fOpL oTuple (fAs [fV (fLc (iRng (fAs [fV (fCall sem__law_draw (fAs [fPk 0, fV (fC (.int 4))]))])) (bName 3) (tYesF) (fCall self (fAs [fPk 0, fV (fOp2 oSub (fPk 1) (fV (fC (.int 1))))])) [3])])))))
noncomputable def sem__law_thing : Nat → Fn
  | 0 => fn0
  | n + 1 => runF 4 (body__law_thing (sem__law_thing n))
abbrev s_Faults___init__ : Stmt := inClass (topS 14) 0
abbrev N_Faults___init__ : List Str := ["self", "lost", "turned", "wrong"]
noncomputable def body_Faults___init__ : Nv → R Fl := fSeq (fIf (tNotF (fTest (fCall sem_is_lot (fAs [fV (fVar 1), fV (fC (.int 60))])))) (fRaise1 1 "part" (fC (.str "lost"))) (fNx)) (fSeq (fIf (tNotF (fTest (fOpL (oIsi 2) (fAs [fPk 2, fV (fC (.ty "tuple"))])))) (fRaise1 1 "part" (fC (.str "turned"))) (fNx)) (fSeq (fSet 3 (fCall sem_first_wrong (fAs [fV (fVar 1), fV (fVar 2)]))) (fSeq (fIf (fTest (fOp2 oNotN (fPk 3) (fV (fC .non)))) (fRaise1 1 "part" (fVar 3)) (fNx)) (fSeq (fSetFld 0 "lost" (fVar 1)) (fSetFld 0 "turned" (fVar 2))))))
noncomputable def sem_Faults___init__ : Fn := runF 4 body_Faults___init__
abbrev s__law_odd : Stmt := topS 30
abbrev N__law_odd : List Str := ["hand"]
noncomputable def body__law_odd : Nv → R Fl := fRet (fCall sem__law_some (fAs [fPk 0, fV (fOpV oLstD (fAs [fV (fC .non), fV (fC (.bl true)), fV (fC (.bl false)), fV (fNeg (fC (.int 1))), fV (fC (.int 0)), fV (fC (.int 59)), fV (fC (.int 60)), fV (fOp2 oPow (fV (fC (.int 10))) (fV (fC (.int 19)))), fV (fC (.str "0")), fV (fOpV oTupD (fAs [])), fV (fOpV oLstD (fAs [])), fV (fOpV oLstD (fAs [fV (fC (.int 0))])), fV (fOpV oTupD (fAs [fV (fC (.int 0))])), fV (fOpV oTupD (fAs [fV (fC (.int 0)), fV (fC (.int 0))])), fV (fOpV oTupD (fAs [fV (fC (.int 0)), fV (fC (.int 0)), fV (fC (.int 0))])), fV (fEmp), fV (fC (.str "ab")), fV (fOpV oTupD (fAs [fV (fC (.int 0)), fV (fOpV oLstD (fAs []))])), fV (fOpV oTupD (fAs [fV (fC (.int 0)), fV (fEmp)])), fV (fOpV oLstD (fAs [fV (fC (.int 0)), fV (fC (.int 0))])), fV (fOpV oTupD (fAs [fV (fC (.bl true)), fV (fC (.int 0))])), fV (fOpV oTupD (fAs [fV (fC (.int 60)), fV (fC (.int 0))])), fV (fOpV oTupD (fAs [fV (fNeg (fC (.int 1))), fV (fC (.int 0))])), fV (fCall sem__law_wrapped (fAs [fV (fC .non), fV (fC (.int 36)), fV (fC (.int 0))])), fV (fCall sem__law_wrapped (fAs [fV (fC .non), fV (fC (.int 36)), fV (fC (.int 1))])), fV (fOpV oTupD (fAs [fV (fC (.int 59)), fV (fCall sem__law_wrapped (fAs [fV (fOpV oLstD (fAs [])), fV (fC (.int 34)), fV (fC (.int 0))]))])), fV (fOpV oTupD (fAs [fV (fC (.int 59)), fV (fCall sem__law_wrapped (fAs [fV (fC (.int 0)), fV (fC (.int 34)), fV (fC (.int 0))]))])), fV (fMake 0 sem_Faults___init__ (fAs [fV (fOpV oTupD (fAs [])), fV (fOpV oTupD (fAs []))])), fV (fOpV oTupD (fAs [fV (fC (.int 0)), fV (fMake 0 sem_Faults___init__ (fAs [fV (fOpV oTupD (fAs [])), fV (fOpV oTupD (fAs []))]))])), fV (fOpV oTupD (fAs [fV (fC (.int 1)), fV (fOpV oTupD (fAs [fV (fC (.str "a")), fV (fMake 1 sem_Hearing___init__ (fAs [fV (fC (.raw 0))]))]))]))]))]))
noncomputable def sem__law_odd : Fn := runF 1 body__law_odd
abbrev s__law_spoilt : Stmt := topS 32
abbrev N__law_spoilt : List Str := ["hand", "rows", "other", "found", "at", "kind", "one"]
noncomputable def body__law_spoilt : Nv → R Fl := fSeq (fParNE 3 4 (fOpL oList (fAs [fPk 1])) (fCall sem__law_draw (fAs [fPk 0, fV (fOp2 oAdd (fV (fOpL oLen (fAs [fPk 1]))) (fV (fC (.int 1))))]))) (fSeq (fSet 5 (fCall sem__law_draw (fAs [fPk 0, fV (fC (.int 5))]))) (fSeq (fIf (tOrF (fTest (fOp2 oEq (fPk 5) (fV (fC (.int 0))))) (fTest (fOp2 oEq (fV (fOpL oLen (fAs [fPk 1]))) (fV (fC (.int 0)))))) (fDrop (fMt 3 mInsert (fAs [fV (fVar 4), fV (fCall sem__law_odd (fAs [fPk 0]))]))) (fIf (fTest (fOp2 oEq (fPk 5) (fV (fC (.int 1))))) (fDrop (fMt 3 mInsert (fAs [fV (fVar 4), fV (fCall sem__law_some (fAs [fPk 0, fV (fVar 1)]))]))) (fIf (fTest (fOp2 oEq (fPk 5) (fV (fC (.int 2))))) (fDrop (fMt 3 mInsert (fAs [fV (fVar 4), fV (fMt 3 mPopAt (fAs [fV (fCall sem__law_draw (fAs [fPk 0, fV (fOpL oLen (fAs [fPk 3]))]))]))]))) (fIf (tAndF (fTest (fOp2 oEq (fPk 5) (fV (fC (.int 3))))) (fTest (fOp2 oGt (fV (fOpL oLen (fAs [fPk 2]))) (fV (fC (.int 0)))))) (fSeq (fSet 6 (fCall sem__law_some (fAs [fPk 0, fV (fVar 2)]))) (fDrop (fMt 3 mInsert (fAs [fV (fVar 4), fV (fIf (tAndF (fTest (fOpL (oIsi 2) (fAs [fPk 6, fV (fC (.ty "tuple"))]))) (fTest (fOp2 oGt (fV (fOpL oLen (fAs [fPk 6]))) (fV (fC (.int 0)))))) (fOp2 oIx (fPk 6) (fV (fC (.int 0)))) (fOpV oTupD (fAs [fV (fVar 6), fV (fC .non)])))])))) (fSetIx 3 (fCall sem__law_draw (fAs [fPk 0, fV (fOpL oLen (fAs [fPk 3]))])) (fCall sem__law_odd (fAs [fPk 0]))))))) (fRet (fOpL oTuple (fAs [fPk 3])))))
noncomputable def sem__law_spoilt : Fn := runF 7 body__law_spoilt
abbrev s__law_made : Stmt := topS 29
abbrev N__law_made : List Str := ["gone", "turns", "made", "e"]
noncomputable def body__law_made : Nv → R Fl := fSeq (fTry1 3 tst_BadFaults (fSet 2 (fMake 0 sem_Faults___init__ (fAs [fV (fVar 0), fV (fVar 1)]))) (hRet (xIf (xAndB (xB (xIs tst_TalkError)) (xB (xIs tst_ValueError))) (xFld 1 "part") (xC (.str "other"))))) (fRet (fIf (tAndF (fTest (fCall (sem__law_is 50) (fAs [fV (fFld "lost" (fPk 2)), fV (fVar 0)]))) (fTest (fCall (sem__law_is 50) (fAs [fV (fFld "turned" (fPk 2)), fV (fVar 1)])))) (fC (.str "let")) (fC (.str "kept"))))
noncomputable def sem__law_made : Fn := runF 4 body__law_made
abbrev s__law_hears : Stmt := topS 34
abbrev N__law_hears : List Str := ["faults", "gone", "turns", "thing", "letter", "due", "one"]
noncomputable def body__law_hears : Nv → R Fl := fSeq (fFor (iRng (fAs [fV (fC (.int 60))])) (bName 4) (fSeq (fSet 5 (fIf (fTest (fOp2 oIn (fPk 4) (fPk 1))) (fOpV oTupD (fAs [])) (fOpV oTupD (fAs [fV (fVar 3)])))) (fSeq (fFor (iAnyF (fVar 2)) (bName 6) (fSet 5 (fIf (fTest (fOp2 oEq (fV (fOp2 oIx (fPk 6) (fV (fC (.int 0))))) (fPk 4))) (fOpV oTupD (fAs [fV (fOp2 oIx (fPk 6) (fV (fC (.int 1))))])) (fVar 5)))) (fIf (tNotF (fTest (fCall (sem__law_is 50) (fAs [fV (fMeth [0, 1] (fun c => match c with | 0 => sem_Faults_ear | 1 => sem_Hearing_ear | _ => fn0) "ear" (fPk 0) (fAs [fV (fVar 4), fV (fVar 3)])), fV (fVar 5)])))) (fRet (fC (.bl false))) (fNx))))) (fRet (fC (.bl true)))
noncomputable def sem__law_hears : Fn := runF 7 body__law_hears
abbrev s_law : Stmt := topS 35
abbrev N_law : List Str := ["script", "hand", "share", "fates", "gone", "turns", "letter", "faults", "thing", "one", "turn", "hearing", "bad", "worse", "kind", "other"]
noncomputable def body_law : Nv → R Fl := fSeq (fSetN 1 (fCallN sem__law_hand (fAs [fV (fVar 0)]))) (fSeq (fSet 2 (fCall sem__law_some (fAs [fPk 1, fV (fOpV oLstD (fAs [fV (fC (.int 2)), fV (fC (.int 3)), fV (fC (.int 12)), fV (fC (.int 60))]))]))) (fSeq (fSet 3 (fLc (iRng (fAs [fV (fC (.int 60))])) (bName 6) (tYesF) (fCall sem__law_draw (fAs [fPk 1, fV (fVar 2)])) [6])) (fSeq (fSet 4 (fOpL oTuple (fAs [fV (fLc (iRng (fAs [fV (fC (.int 60))])) (bName 6) (fTest (fOp2 oEq (fV (fOp2 oIx (fPk 3) (fPk 6))) (fV (fC (.int 0))))) (fVar 6) [6])]))) (fSeq (fSetN 5 (fOpV oLstD (fAs []))) (fSeq (fFor (iRng (fAs [fV (fC (.int 60))])) (bName 6) (fIf (fTest (fOp2 oEq (fV (fOp2 oIx (fPk 3) (fPk 6))) (fV (fC (.int 1))))) (fDrop (fMt 5 mAppend (fAs [fV (fOpV oTupD (fAs [fV (fVar 6), fV (fCall sem__law_wrapped (fAs [fV (fCall (sem__law_thing 4) (fAs [fPk 1, fV (fC (.int 2))])), fV (fCall sem__law_some (fAs [fPk 1, fV (fOpV oLstD (fAs [fV (fC (.int 0)), fV (fC (.int 0)), fV (fC (.int 0)), fV (fC (.int 30))]))])), fV (fC (.int 0))]))]))]))) (fNx))) (fSeq (fSet 5 (fOpL oTuple (fAs [fPk 5]))) (fSeq (fIf (fTest (fOp2 oNe (fV (fCall sem__law_made (fAs [fV (fVar 4), fV (fVar 5)]))) (fV (fC (.str "let"))))) (fRet (fC (.bl false))) (fNx)) (fSeq (fPar 7 8 (fMake 0 sem_Faults___init__ (fAs [fV (fVar 4), fV (fVar 5)])) (fCall (sem__law_thing 4) (fAs [fPk 1, fV (fC (.int 2))]))) (fSeq (fFor (iAnyF (fOpV oTupD (fAs [fV (fVar 8), fV (fCall (sem__law_twin 50) (fAs [fV (fVar 8)])), fV (fVar 8)]))) (bName 9) (fIf (tNotF (fTest (fCall sem__law_hears (fAs [fV (fVar 7), fV (fVar 4), fV (fVar 5), fV (fVar 9)])))) (fRet (fC (.bl false))) (fNx))) (fSeq (fIf (tOrF (tNotF (fTest (fEqI 2 0 sem_Faults___eq__ (fPk 7) (fV (fMake 0 sem_Faults___init__ (fAs [fV (fVar 4), fV (fOpL oTuple (fAs [fV (fLc (iAnyF (fVar 5)) (bTup [bName 9, bName 15]) (tYesF) (fOpV oTupD (fAs [fV (fVar 9), fV (fCall (sem__law_twin 50) (fAs [fV (fVar 15)]))])) [9, 15])]))])))))) (fTest (fEqI 2 0 sem_Faults___eq__ (fPk 7) (fV (fOpV oTupD (fAs [fV (fVar 4), fV (fVar 5)])))))) (fRet (fC (.bl false))) (fNx)) (fSeq (fIf (tOrF (tAndF (fTest (fOp2 oGt (fV (fOpL oLen (fAs [fPk 5]))) (fV (fC (.int 0))))) (fTest (fEqI 2 0 sem_Faults___eq__ (fPk 7) (fV (fMake 0 sem_Faults___init__ (fAs [fV (fVar 4), fV (fSl (fPk 5) (pSome (fC (.int 1))) (pNone))])))))) (tAndF (fTest (fOp2 oGt (fV (fOpL oLen (fAs [fPk 4]))) (fV (fC (.int 0))))) (fTest (fEqI 2 0 sem_Faults___eq__ (fPk 7) (fV (fMake 0 sem_Faults___init__ (fAs [fV (fSl (fPk 4) (pNone) (pSome (fNeg (fC (.int 1))))), fV (fVar 5)]))))))) (fRet (fC (.bl false))) (fNx)) (fSeq (fFor (iRng (fAs [fV (fC (.int 4))])) (bName 10) (fSeq (fPar 12 13 (fVar 4) (fVar 5)) (fSeq (fSet 14 (fCall sem__law_draw (fAs [fPk 1, fV (fC (.int 5))]))) (fSeq (fIf (fTest (fOp2 oLt (fPk 14) (fV (fC (.int 2))))) (fSet 12 (fCall sem__law_spoilt (fAs [fPk 1, fV (fVar 4), fV (fVar 5)]))) (fNx)) (fSeq (fIf (fTest (fOp2 oGt (fPk 14) (fV (fC (.int 0))))) (fSet 13 (fCall sem__law_spoilt (fAs [fPk 1, fV (fVar 13), fV (fVar 4)]))) (fNx)) (fSeq (fIf (fTest (fOp2 oEq (fPk 14) (fV (fC (.int 4))))) (fSet 13 (fCall sem__law_spoilt (fAs [fPk 1, fV (fVar 13), fV (fVar 4)]))) (fNx)) (fSeq (fIf (fTest (fOp2 oEq (fV (fCall sem__law_draw (fAs [fPk 1, fV (fC (.int 9))]))) (fV (fC (.int 0))))) (fSet 12 (fCall sem__law_some (fAs [fPk 1, fV (fOpV oLstD (fAs [fV (fOpL oList (fAs [fPk 4])), fV (fC .non), fV (fC (.int 0)), fV (fC (.str "")), fV (fEmp), fV (fCall sem__law_odd (fAs [fPk 1]))]))]))) (fNx)) (fSeq (fIf (fTest (fOp2 oEq (fV (fCall sem__law_draw (fAs [fPk 1, fV (fC (.int 9))]))) (fV (fC (.int 0))))) (fSet 13 (fCall sem__law_some (fAs [fPk 1, fV (fOpV oLstD (fAs [fV (fOpL oList (fAs [fPk 5])), fV (fC .non), fV (fC (.int 0)), fV (fC (.str "")), fV (fEmp), fV (fCall sem__law_odd (fAs [fPk 1]))]))]))) (fNx)) (fIf (tNotF (fTest (fCall (sem__law_is 50) (fAs [fV (fCall sem__law_made (fAs [fV (fVar 12), fV (fVar 13)])), fV (fCall sem__law_part (fAs [fV (fVar 12), fV (fVar 13)]))])))) (fRet (fC (.bl false))) (fNx)))))))))) (fSeq (fPar 11 6 (fMake 1 sem_Hearing___init__ (fAs [fV (fC (.raw 0))])) (fCall sem__law_draw (fAs [fPk 1, fV (fC (.int 60))]))) (fRet (fAnd (fCall (sem__law_is 50) (fAs [fV (fMeth [0, 1] (fun c => match c with | 0 => sem_Faults_ear | 1 => sem_Hearing_ear | _ => fn0) "ear" (fPk 11) (fAs [fV (fVar 6), fV (fVar 8)])), fV (fCall sem__law_ear (fAs [fV (fVar 6), fV (fVar 8)]))])) (fNot (fEqI 2 0 sem_Faults___eq__ (fPk 7) (fPk 11))))))))))))))))))
noncomputable def sem_law : Fn := runF 16 body_law
end Law

namespace Law
open PySem PySem.Spec PyProof.Rows L2 FL
/-- where things stand -/
structure Adr where
  a_is_integer : Addr
  d_is_integer : FuncData
  a_is_between : Addr
  d_is_between : FuncData
  a_is_sized : Addr
  d_is_sized : FuncData
  a_is_lot : Addr
  d_is_lot : FuncData
  a_is_leaf : Addr
  d_is_leaf : FuncData
  a_is_thing : Addr
  d_is_thing : FuncData
  a_BadFaults___init__ : Addr
  d_BadFaults___init__ : FuncData
  a_is_turn : Addr
  d_is_turn : FuncData
  a_first_wrong : Addr
  d_first_wrong : FuncData
  a_Faults___init__ : Addr
  d_Faults___init__ : FuncData
  a_Faults___eq__ : Addr
  d_Faults___eq__ : FuncData
  a_Faults_ear : Addr
  d_Faults_ear : FuncData
  a_Hearing___init__ : Addr
  d_Hearing___init__ : FuncData
  a_Hearing_ear : Addr
  d_Hearing_ear : FuncData
  a__law_hand : Addr
  d__law_hand : FuncData
  a__law_draw : Addr
  d__law_draw : FuncData
  a__law_some : Addr
  d__law_some : FuncData
  a__law_is : Addr
  d__law_is : FuncData
  a__law_signs : Addr
  d__law_signs : FuncData
  a__law_word : Addr
  d__law_word : FuncData
  a__law_is_number : Addr
  d__law_is_number : FuncData
  a__law_is_thing : Addr
  d__law_is_thing : FuncData
  a__law_thing : Addr
  d__law_thing : FuncData
  a__law_wrapped : Addr
  d__law_wrapped : FuncData
  a__law_rising : Addr
  d__law_rising : FuncData
  a__law_part : Addr
  d__law_part : FuncData
  a__law_made : Addr
  d__law_made : FuncData
  a__law_odd : Addr
  d__law_odd : FuncData
  a__law_ear : Addr
  d__law_ear : FuncData
  a__law_spoilt : Addr
  d__law_spoilt : FuncData
  a__law_twin : Addr
  d__law_twin : FuncData
  a__law_hears : Addr
  d__law_hears : FuncData
  a_law : Addr
  d_law : FuncData
  c_TalkError : Addr
  c_BadFaults : Addr
  c_Faults : Addr
  c_Hearing : Addr
def gm (K : PySem.W.Frag) (a : Adr) : Gm := ⟨K, fun c => match c with | 1 => a.c_Hearing | _ => a.c_Faults, fun c => match c with | 1 => a.c_BadFaults | _ => a.c_TalkError, fun k => match k with | 0 => .ref a.a__law_ear | _ => .non⟩
structure Txt (K : PySem.W.Frag) (mg : Str → Option Value) (a : Adr) : Prop where
  f_is_integer : Fun K "is_integer" "is_integer" s_is_integer a.a_is_integer a.d_is_integer
  b_is_integer : Binds K a.d_is_integer ["thing"] []
  mg_is_integer : mg "is_integer" = some (.ref a.a_is_integer)
  kp_is_integer : PySem.W.keepIn K (.ref a.a_is_integer) = true
  f_is_between : Fun K "is_between" "is_between" s_is_between a.a_is_between a.d_is_between
  b_is_between : Binds K a.d_is_between ["thing", "low", "high"] []
  mg_is_between : mg "is_between" = some (.ref a.a_is_between)
  kp_is_between : PySem.W.keepIn K (.ref a.a_is_between) = true
  f_is_sized : Fun K "is_sized" "is_sized" s_is_sized a.a_is_sized a.d_is_sized
  b_is_sized : Binds K a.d_is_sized ["thing", "low", "high"] []
  mg_is_sized : mg "is_sized" = some (.ref a.a_is_sized)
  kp_is_sized : PySem.W.keepIn K (.ref a.a_is_sized) = true
  f_is_lot : Fun K "is_lot" "is_lot" s_is_lot a.a_is_lot a.d_is_lot
  b_is_lot : Binds K a.d_is_lot ["thing", "below"] []
  mg_is_lot : mg "is_lot" = some (.ref a.a_is_lot)
  kp_is_lot : PySem.W.keepIn K (.ref a.a_is_lot) = true
  f_is_leaf : Fun K "is_leaf" "is_leaf" s_is_leaf a.a_is_leaf a.d_is_leaf
  b_is_leaf : Binds K a.d_is_leaf ["thing"] []
  mg_is_leaf : mg "is_leaf" = some (.ref a.a_is_leaf)
  kp_is_leaf : PySem.W.keepIn K (.ref a.a_is_leaf) = true
  f_is_thing : Fun K "is_thing" "is_thing" s_is_thing a.a_is_thing a.d_is_thing
  b_is_thing : Binds K a.d_is_thing ["thing"] []
  mg_is_thing : mg "is_thing" = some (.ref a.a_is_thing)
  kp_is_thing : PySem.W.keepIn K (.ref a.a_is_thing) = true
  f_BadFaults___init__ : Fun K "__init__" "BadFaults.__init__" s_BadFaults___init__ a.a_BadFaults___init__ a.d_BadFaults___init__
  b_BadFaults___init__ : Binds K a.d_BadFaults___init__ ["self", "part"] []
  kp_BadFaults___init__ : PySem.W.keepIn K (.ref a.a_BadFaults___init__) = true
  f_is_turn : Fun K "is_turn" "is_turn" s_is_turn a.a_is_turn a.d_is_turn
  b_is_turn : Binds K a.d_is_turn ["thing"] []
  mg_is_turn : mg "is_turn" = some (.ref a.a_is_turn)
  kp_is_turn : PySem.W.keepIn K (.ref a.a_is_turn) = true
  f_first_wrong : Fun K "first_wrong" "first_wrong" s_first_wrong a.a_first_wrong a.d_first_wrong
  b_first_wrong : Binds K a.d_first_wrong ["lost", "turned"] []
  mg_first_wrong : mg "first_wrong" = some (.ref a.a_first_wrong)
  kp_first_wrong : PySem.W.keepIn K (.ref a.a_first_wrong) = true
  f_Faults___init__ : Fun K "__init__" "Faults.__init__" s_Faults___init__ a.a_Faults___init__ a.d_Faults___init__
  b_Faults___init__ : Binds K a.d_Faults___init__ ["self", "lost", "turned"] []
  kp_Faults___init__ : PySem.W.keepIn K (.ref a.a_Faults___init__) = true
  f_Faults___eq__ : Fun K "__eq__" "Faults.__eq__" s_Faults___eq__ a.a_Faults___eq__ a.d_Faults___eq__
  b_Faults___eq__ : Binds K a.d_Faults___eq__ ["self", "thing"] []
  kp_Faults___eq__ : PySem.W.keepIn K (.ref a.a_Faults___eq__) = true
  f_Faults_ear : Fun K "ear" "Faults.ear" s_Faults_ear a.a_Faults_ear a.d_Faults_ear
  b_Faults_ear : Binds K a.d_Faults_ear ["self", "letter", "thing"] []
  kp_Faults_ear : PySem.W.keepIn K (.ref a.a_Faults_ear) = true
  f_Hearing___init__ : Fun K "__init__" "Hearing.__init__" s_Hearing___init__ a.a_Hearing___init__ a.d_Hearing___init__
  b_Hearing___init__ : Binds K a.d_Hearing___init__ ["self", "hearing"] []
  kp_Hearing___init__ : PySem.W.keepIn K (.ref a.a_Hearing___init__) = true
  f_Hearing_ear : Fun K "ear" "Hearing.ear" s_Hearing_ear a.a_Hearing_ear a.d_Hearing_ear
  b_Hearing_ear : Binds K a.d_Hearing_ear ["self", "letter", "thing"] []
  kp_Hearing_ear : PySem.W.keepIn K (.ref a.a_Hearing_ear) = true
  f__law_hand : Fun K "_law_hand" "_law_hand" s__law_hand a.a__law_hand a.d__law_hand
  b__law_hand : Binds K a.d__law_hand ["script"] []
  mg__law_hand : mg "_law_hand" = some (.ref a.a__law_hand)
  kp__law_hand : PySem.W.keepIn K (.ref a.a__law_hand) = true
  f__law_draw : Fun K "_law_draw" "_law_draw" s__law_draw a.a__law_draw a.d__law_draw
  b__law_draw : Binds K a.d__law_draw ["hand", "many"] []
  mg__law_draw : mg "_law_draw" = some (.ref a.a__law_draw)
  kp__law_draw : PySem.W.keepIn K (.ref a.a__law_draw) = true
  f__law_some : Fun K "_law_some" "_law_some" s__law_some a.a__law_some a.d__law_some
  b__law_some : Binds K a.d__law_some ["hand", "things"] []
  mg__law_some : mg "_law_some" = some (.ref a.a__law_some)
  kp__law_some : PySem.W.keepIn K (.ref a.a__law_some) = true
  f__law_is : Fun K "_law_is" "_law_is" s__law_is a.a__law_is a.d__law_is
  b__law_is : Binds K a.d__law_is ["told", "due"] []
  mg__law_is : mg "_law_is" = some (.ref a.a__law_is)
  kp__law_is : PySem.W.keepIn K (.ref a.a__law_is) = true
  f__law_signs : Fun K "_law_signs" "_law_signs" s__law_signs a.a__law_signs a.d__law_signs
  b__law_signs : Binds K a.d__law_signs [] []
  mg__law_signs : mg "_law_signs" = some (.ref a.a__law_signs)
  kp__law_signs : PySem.W.keepIn K (.ref a.a__law_signs) = true
  f__law_word : Fun K "_law_word" "_law_word" s__law_word a.a__law_word a.d__law_word
  b__law_word : Binds K a.d__law_word ["hand"] []
  mg__law_word : mg "_law_word" = some (.ref a.a__law_word)
  kp__law_word : PySem.W.keepIn K (.ref a.a__law_word) = true
  f__law_is_number : Fun K "_law_is_number" "_law_is_number" s__law_is_number a.a__law_is_number a.d__law_is_number
  b__law_is_number : Binds K a.d__law_is_number ["thing", "many"] []
  mg__law_is_number : mg "_law_is_number" = some (.ref a.a__law_is_number)
  kp__law_is_number : PySem.W.keepIn K (.ref a.a__law_is_number) = true
  f__law_is_thing : Fun K "_law_is_thing" "_law_is_thing" s__law_is_thing a.a__law_is_thing a.d__law_is_thing
  b__law_is_thing : Binds K a.d__law_is_thing ["thing"] []
  mg__law_is_thing : mg "_law_is_thing" = some (.ref a.a__law_is_thing)
  kp__law_is_thing : PySem.W.keepIn K (.ref a.a__law_is_thing) = true
  f__law_thing : Fun K "_law_thing" "_law_thing" s__law_thing a.a__law_thing a.d__law_thing
  b__law_thing : Binds K a.d__law_thing ["hand", "deep"] []
  mg__law_thing : mg "_law_thing" = some (.ref a.a__law_thing)
  kp__law_thing : PySem.W.keepIn K (.ref a.a__law_thing) = true
  f__law_wrapped : Fun K "_law_wrapped" "_law_wrapped" s__law_wrapped a.a__law_wrapped a.d__law_wrapped
  b__law_wrapped : Binds K a.d__law_wrapped ["thing", "many", "kind"] []
  mg__law_wrapped : mg "_law_wrapped" = some (.ref a.a__law_wrapped)
  kp__law_wrapped : PySem.W.keepIn K (.ref a.a__law_wrapped) = true
  f__law_rising : Fun K "_law_rising" "_law_rising" s__law_rising a.a__law_rising a.d__law_rising
  b__law_rising : Binds K a.d__law_rising ["thing"] []
  mg__law_rising : mg "_law_rising" = some (.ref a.a__law_rising)
  kp__law_rising : PySem.W.keepIn K (.ref a.a__law_rising) = true
  f__law_part : Fun K "_law_part" "_law_part" s__law_part a.a__law_part a.d__law_part
  b__law_part : Binds K a.d__law_part ["gone", "turns"] []
  mg__law_part : mg "_law_part" = some (.ref a.a__law_part)
  kp__law_part : PySem.W.keepIn K (.ref a.a__law_part) = true
  f__law_made : Fun K "_law_made" "_law_made" s__law_made a.a__law_made a.d__law_made
  b__law_made : Binds K a.d__law_made ["gone", "turns"] []
  mg__law_made : mg "_law_made" = some (.ref a.a__law_made)
  kp__law_made : PySem.W.keepIn K (.ref a.a__law_made) = true
  f__law_odd : Fun K "_law_odd" "_law_odd" s__law_odd a.a__law_odd a.d__law_odd
  b__law_odd : Binds K a.d__law_odd ["hand"] []
  mg__law_odd : mg "_law_odd" = some (.ref a.a__law_odd)
  kp__law_odd : PySem.W.keepIn K (.ref a.a__law_odd) = true
  f__law_ear : Fun K "_law_ear" "_law_ear" s__law_ear a.a__law_ear a.d__law_ear
  b__law_ear : Binds K a.d__law_ear ["letter", "thing"] []
  mg__law_ear : mg "_law_ear" = some (.ref a.a__law_ear)
  kp__law_ear : PySem.W.keepIn K (.ref a.a__law_ear) = true
  f__law_spoilt : Fun K "_law_spoilt" "_law_spoilt" s__law_spoilt a.a__law_spoilt a.d__law_spoilt
  b__law_spoilt : Binds K a.d__law_spoilt ["hand", "rows", "other"] []
  mg__law_spoilt : mg "_law_spoilt" = some (.ref a.a__law_spoilt)
  kp__law_spoilt : PySem.W.keepIn K (.ref a.a__law_spoilt) = true
  f__law_twin : Fun K "_law_twin" "_law_twin" s__law_twin a.a__law_twin a.d__law_twin
  b__law_twin : Binds K a.d__law_twin ["thing"] []
  mg__law_twin : mg "_law_twin" = some (.ref a.a__law_twin)
  kp__law_twin : PySem.W.keepIn K (.ref a.a__law_twin) = true
  f__law_hears : Fun K "_law_hears" "_law_hears" s__law_hears a.a__law_hears a.d__law_hears
  b__law_hears : Binds K a.d__law_hears ["faults", "gone", "turns", "thing"] []
  mg__law_hears : mg "_law_hears" = some (.ref a.a__law_hears)
  kp__law_hears : PySem.W.keepIn K (.ref a.a__law_hears) = true
  f_law : Fun K "law" "law" s_law a.a_law a.d_law
  b_law : Binds K a.d_law ["script"] []
  mg_law : mg "law" = some (.ref a.a_law)
  kp_law : PySem.W.keepIn K (.ref a.a_law) = true
  mg_Faults : mg "Faults" = some (.ref a.c_Faults)
  mk_Faults : Mk K a.c_Faults a.a_Faults___init__
  me_Faults_ear : Meth K a.c_Faults "ear" a.a_Faults_ear
  eq_Faults : PySem.W.findIn K (.ref a.c_Faults) "__eq__" = some (some (.ref a.a_Faults___eq__))
  eqf_Faults : PySem.W.isFn K (.ref a.a_Faults___eq__) = true
  mg_Hearing : mg "Hearing" = some (.ref a.c_Hearing)
  mk_Hearing : Mk K a.c_Hearing a.a_Hearing___init__
  me_Hearing_ear : Meth K a.c_Hearing "ear" a.a_Hearing_ear
  cl : ∀ c, Cls K ((gm K a).cls c)
  insTy : ∀ c, InsTy (gm K a) c
  na_part : ∀ c, NoAttr K ((gm K a).cls c) "part"
  na_lost : ∀ c, NoAttr K ((gm K a).cls c) "lost"
  na_turned : ∀ c, NoAttr K ((gm K a).cls c) "turned"
  na_hearing : ∀ c, NoAttr K ((gm K a).cls c) "hearing"
  unl : Unlike (gm K a) 2
  apt : Apart (gm K a) 2
  exT : ∀ c, ExcT K ((gm K a).xcl c)
  mgx_BadFaults : mg "BadFaults" = some (.ref a.c_BadFaults)
  mgx_TalkError : mg "TalkError" = some (.ref a.c_TalkError)
  exm_BadFaults : ∀ k, PySem.W.exmOne K (.ref ((gm K a).xcl k)) (.ref a.c_BadFaults) = some (tst_BadFaults k)
  kit_TalkError : ∀ k, PySem.W.kitOne K (.ref ((gm K a).xcl k)) (.ref a.c_TalkError) = some (tst_TalkError k)
  kit_ValueError : ∀ k, PySem.W.kitOne K (.ref ((gm K a).xcl k)) (.type "ValueError") = some (tst_ValueError k)
  oex_BadFaults : OexC K a.c_BadFaults
  xf_BadFaults : XfC K a.c_BadFaults
  ini_BadFaults : PySem.W.findIn K (.ref a.c_BadFaults) "__init__" = some (some (.ref a.a_BadFaults___init__))
  tyf_BadFaults : PySem.W.typeIn K (.ref a.a_BadFaults___init__) = some (.type "function")
  nof_BadFaults : PySem.W.findIn K (.ref a.c_BadFaults) "part" = some none
  k_MOST_LETTERS : ∃ u, mg "MOST_LETTERS" = some u ∧ RelV (.int 60) u
  b_ValueError : mg "ValueError" = none
  b_abs : mg "abs" = none
  b_all : mg "all" = none
  b_bool : mg "bool" = none
  b_enumerate : mg "enumerate" = none
  b_int : mg "int" = none
  b_isinstance : mg "isinstance" = none
  b_len : mg "len" = none
  b_list : mg "list" = none
  b_range : mg "range" = none
  b_str : mg "str" = none
  b_tuple : mg "tuple" = none
  b_zip : mg "zip" = none
section
variable {P : Program} {w : World} {K : PySem.W.Frag} {mg : Str → Option Value} {a : Adr}
theorem sc_is_integer : FnScope N_is_integer ["thing"] (defScope s_is_integer) := ⟨rfl, rfl, rfl, by decide +kernel, rfl, by decide +kernel, by decide +kernel⟩
theorem ok_is_integer (T : Txt K mg a) (base : Heap) : FnOk P w K mg base (L2.CX P w) 1 a.a_is_integer a.d_is_integer ["thing"] (spF (gm K a) 1 sem_is_integer) := by
  refine fn_ok T.f_is_integer sc_is_integer body_is_integer 1 rfl 1 rfl fun cdv A outer sh H E hr => ?_
  have tk : Takes (cxOf (L2.CX P w) P w K mg base N_is_integer "is_integer" (defScope s_is_integer) a.a_is_integer cdv A outer sh H E) (fun cls d _ H => E cls d H) := takes_of rfl rfl rfl rfl
  exact fss_one (fs_ret (fe_and (pe_and (fe_opL (opL_isi _ T.insTy T.unl) (pe_callB call_isi (by rfl) T.b_isinstance (by decide +kernel) (fa_cons (fo_pk (pv 0)) (fa_cons (fo_val (fe_c (pe_bltn (v := .ty "int") (u := .type "int") (by rfl) T.b_int (by decide +kernel) rfl) (.ty "int") (fun _ => rfl))) (fa_nil))))) (pe_one (fe_not (pe_not (fe_opL (opL_isi _ T.insTy T.unl) (pe_callB call_isi (by rfl) T.b_isinstance (by decide +kernel) (fa_cons (fo_pk (pv 0)) (fa_cons (fo_val (fe_c (pe_bltn (v := .ty "bool") (u := .type "bool") (by rfl) T.b_bool (by decide +kernel) rfl) (.ty "bool") (fun _ => rfl))) (fa_nil)))))))))))
theorem sc_is_sized : FnScope N_is_sized ["thing", "low", "high"] (defScope s_is_sized) := ⟨rfl, rfl, rfl, by decide +kernel, rfl, by decide +kernel, by decide +kernel⟩
theorem ok_is_sized (T : Txt K mg a) (base : Heap) : FnOk P w K mg base (L2.CX P w) 1 a.a_is_sized a.d_is_sized ["thing", "low", "high"] (spF (gm K a) 3 sem_is_sized) := by
  refine fn_ok T.f_is_sized sc_is_sized body_is_sized 3 rfl 3 rfl fun cdv A outer sh H E hr => ?_
  have tk : Takes (cxOf (L2.CX P w) P w K mg base N_is_sized "is_sized" (defScope s_is_sized) a.a_is_sized cdv A outer sh H E) (fun cls d _ H => E cls d H) := takes_of rfl rfl rfl rfl
  exact fss_one (fs_ret (fe_and (pe_and (fe_opL (opL_isi _ T.insTy T.unl) (pe_callB call_isi (by rfl) T.b_isinstance (by decide +kernel) (fa_cons (fo_pk (pv 0)) (fa_cons (fo_val (fe_c (pe_bltn (v := .ty "tuple") (u := .type "tuple") (by rfl) T.b_tuple (by decide +kernel) rfl) (.ty "tuple") (fun _ => rfl))) (fa_nil))))) (pe_one (fe_chain (op2_le _) (op2_le _) (pe_chain opr_le opr_le (fo_pk (pv 1)) (fo_val (fe_opL (opL_len _) (pe_callB callr_len (by rfl) T.b_len (by decide +kernel) (fa_cons (fo_pk (pv 0)) (fa_nil))))) (fo_pk (pv 2))))))))
theorem sc_is_leaf : FnScope N_is_leaf ["thing"] (defScope s_is_leaf) := ⟨rfl, rfl, rfl, by decide +kernel, rfl, by decide +kernel, by decide +kernel⟩
theorem ok_is_leaf (T : Txt K mg a) (base : Heap) : FnOk P w K mg base (L2.CX P w) 1 a.a_is_leaf a.d_is_leaf ["thing"] (spF (gm K a) 1 sem_is_leaf) := by
  refine fn_ok T.f_is_leaf sc_is_leaf body_is_leaf 1 rfl 1 rfl fun cdv A outer sh H E hr => ?_
  have tk : Takes (cxOf (L2.CX P w) P w K mg base N_is_leaf "is_leaf" (defScope s_is_leaf) a.a_is_leaf cdv A outer sh H E) (fun cls d _ H => E cls d H) := takes_of rfl rfl rfl rfl
  exact fss_one (fs_ret (fe_or (pe_or (fe_op2 (op2_isN _) (pe_cmpR op_isN (fo_pk (pv 0)) (fo_val (fe_c pe_non .non (fun _ => rfl))) (nomark _))) (pe_one (fe_isiT T.insTy rfl (pe_callB call_isiT (by rfl) T.b_isinstance (by decide +kernel) (pa_cons (fo_pk (pv 0)) (pa_cons (pe_tup (fa_cons (fo_val (fe_c (pe_bltn (v := .ty "bool") (u := .type "bool") (by rfl) T.b_bool (by decide +kernel) rfl) (.ty "bool") (fun _ => rfl))) (fa_cons (fo_val (fe_c (pe_bltn (v := .ty "int") (u := .type "int") (by rfl) T.b_int (by decide +kernel) rfl) (.ty "int") (fun _ => rfl))) (fa_cons (fo_val (fe_c (pe_bltn (v := .ty "str") (u := .type "str") (by rfl) T.b_str (by decide +kernel) rfl) (.ty "str") (fun _ => rfl))) (fa_nil))))) pa_nil))))))))
theorem sc_BadFaults___init__ : FnScope N_BadFaults___init__ ["self", "part"] (defScope s_BadFaults___init__) := ⟨rfl, rfl, rfl, by decide +kernel, rfl, by decide +kernel, by decide +kernel⟩
theorem ok_BadFaults___init__ (T : Txt K mg a) (base : Heap) : FnOk P w K mg base (L2.CX P w) 1 a.a_BadFaults___init__ a.d_BadFaults___init__ ["self", "part"] (spI K "part") := by
  exact T.f_BadFaults___init__.okX sc_BadFaults___init__ (fun vs H Q E h => spI_len h) fun cdv A outer sh H vs Q E hr h => ⟨_, pss_one (ps_ost (pv 0) (pv 1)), init_read h⟩
theorem sc_Faults___eq__ : FnScope N_Faults___eq__ ["self", "thing"] (defScope s_Faults___eq__) := ⟨rfl, rfl, rfl, by decide +kernel, rfl, by decide +kernel, by decide +kernel⟩
theorem ok_Faults___eq__ (T : Txt K mg a) (base : Heap) : FnOk P w K mg base (L2.CX P w) 1 a.a_Faults___eq__ a.d_Faults___eq__ ["self", "thing"] (spF (gm K a) 2 sem_Faults___eq__) := by
  refine fn_ok T.f_Faults___eq__ sc_Faults___eq__ body_Faults___eq__ 2 rfl 2 rfl fun cdv A outer sh H E hr => ?_
  have tk : Takes (cxOf (L2.CX P w) P w K mg base N_Faults___eq__ "Faults.__eq__" (defScope s_Faults___eq__) a.a_Faults___eq__ cdv A outer sh H E) (fun cls d _ H => E cls d H) := takes_of rfl rfl rfl rfl
  exact fss_one (fs_ret (fe_and (pe_and (fe_opL (opL_isi _ T.insTy T.unl) (pe_callB call_isi (by rfl) T.b_isinstance (by decide +kernel) (fa_cons (fo_pk (pv 1)) (fa_cons (fo_val (fe_c (pe_glob (v := .ref a.c_Faults) (by rfl) T.mg_Faults rfl) (.cls 0) (fun _ => rfl))) (fa_nil))))) (fe_and (pe_and (fe_op2 (op2_eq _) (pe_cmpR (op_eqD hr.units) (fo_val (fe_fld rfl T.cl (T.na_lost) (pe_fld (fo_pk (pv 0)) rfl))) (fo_val (fe_fld rfl T.cl (T.na_lost) (pe_fld (fo_pk (pv 1)) rfl))) (nomark _))) (pe_one (fe_op2 (op2_eq _) (pe_cmpR (op_eqD hr.units) (fo_val (fe_fld rfl T.cl (T.na_turned) (pe_fld (fo_pk (pv 0)) rfl))) (fo_val (fe_fld rfl T.cl (T.na_turned) (pe_fld (fo_pk (pv 1)) rfl))) (nomark _)))))))))
theorem sc_Faults_ear : FnScope N_Faults_ear ["self", "letter", "thing"] (defScope s_Faults_ear) := ⟨rfl, rfl, rfl, by decide +kernel, rfl, by decide +kernel, by decide +kernel⟩
theorem ok_Faults_ear (T : Txt K mg a) (base : Heap) : FnOk P w K mg base (L2.CX P w) 1 a.a_Faults_ear a.d_Faults_ear ["self", "letter", "thing"] (spF (gm K a) 3 sem_Faults_ear) := by
  refine fn_ok T.f_Faults_ear sc_Faults_ear body_Faults_ear 3 rfl 5 rfl fun cdv A outer sh H E hr => ?_
  have tk : Takes (cxOf (L2.CX P w) P w K mg base N_Faults_ear "Faults.ear" (defScope s_Faults_ear) a.a_Faults_ear cdv A outer sh H E) (fun cls d _ H => E cls d H) := takes_of rfl rfl rfl rfl
  exact fss_cons (fs_if (ft_op2 (op2_in _) (pt_cmpR (opr_in (units65 hr)) (fo_pk (pv 1)) (fo_val (fe_fld rfl T.cl (T.na_lost) (pe_fld (fo_pk (pv 0)) rfl))) (by rfl))) (fss_one (fs_ret (fe_tup (pe_tup (fa_nil))))) (fss_nil)) (fss_cons (fs_for (ps_for (passes_of rfl) rfl (fi_any rfl (pi_any (fe_fld rfl T.cl (T.na_turned) (pe_fld (fo_pk (pv 0)) rfl)))) (fg_tup rfl (fgs_cons (fg_name (pg_name (i := 3) sc_Faults_ear.nd rfl (Or.inl rfl))) (fgs_cons (fg_name (pg_name (i := 4) sc_Faults_ear.nd rfl (Or.inl rfl))) (fgs_nil))) rfl) (fss_one (fs_if (ft_op2 (op2_eq _) (pt_cmpR (op_eqD hr.units) (fo_pk (pv 3)) (fo_pk (pv 1)) (nomark _))) (fss_one (fs_ret (fe_tup (pe_tup (fa_cons (fo_val (fe_var (pv 4))) (fa_nil)))))) (fss_nil))))) (fss_one (fs_ret (fe_tup (pe_tup (fa_cons (fo_val (fe_var (pv 2))) (fa_nil)))))))
theorem sc_Hearing___init__ : FnScope N_Hearing___init__ ["self", "hearing"] (defScope s_Hearing___init__) := ⟨rfl, rfl, rfl, by decide +kernel, rfl, by decide +kernel, by decide +kernel⟩
theorem ok_Hearing___init__ (T : Txt K mg a) (base : Heap) : FnOk P w K mg base (L2.CX P w) 1 a.a_Hearing___init__ a.d_Hearing___init__ ["self", "hearing"] (spF (gm K a) 2 sem_Hearing___init__) := by
  refine fn_ok T.f_Hearing___init__ sc_Hearing___init__ body_Hearing___init__ 2 rfl 2 rfl fun cdv A outer sh H E hr => ?_
  have tk : Takes (cxOf (L2.CX P w) P w K mg base N_Hearing___init__ "Hearing.__init__" (defScope s_Hearing___init__) a.a_Hearing___init__ cdv A outer sh H E) (fun cls d _ H => E cls d H) := takes_of rfl rfl rfl rfl
  exact fss_one (fs_setFld rfl T.cl T.na_hearing (ps_fld (fo_pk (pv 0)) (fe_var (pv 1)) rfl))
theorem sc__law_hand : FnScope N__law_hand ["script"] (defScope s__law_hand) := ⟨rfl, rfl, rfl, by decide +kernel, rfl, by decide +kernel, by decide +kernel⟩
theorem ok__law_hand (T : Txt K mg a) (base : Heap) : FnOk P w K mg base (L2.CX P w) 1 a.a__law_hand a.d__law_hand ["script"] (spF (gm K a) 1 sem__law_hand) := by
  refine fn_ok T.f__law_hand sc__law_hand body__law_hand 1 rfl 3 rfl fun cdv A outer sh H E hr => ?_
  have tk : Takes (cxOf (L2.CX P w) P w K mg base N__law_hand "_law_hand" (defScope s__law_hand) a.a__law_hand cdv A outer sh H E) (fun cls d _ H => E cls d H) := takes_of rfl rfl rfl rfl
  exact fss_cons (fs_setLc (ps_setLc (i := 1) (own := [("cell", 2)]) rfl sc__law_hand.nd rfl rfl (sw_true rfl rfl rfl (by decide +kernel)) (fi_any rfl (pi_any (fe_sl rfl (pe_slice slr_all (fo_pk (pv 0)) (fp_none) (fp_some (fe_c pe_int (.int 63) (fun _ => rfl))))))) (blkOk_by (N := N__law_hand) (sc := defScope s__law_hand) (by decide +kernel)) (fun _ _ _ _ _ => fgv_name (by decide) (pg_name (i := 2) sc__law_hand.nd rfl (Or.inl rfl))) (fun _ _ _ _ _ => fts_nil) (fun _ _ _ _ _ => fe_opL (opL_abs _) (pe_callB call_abs (by rfl) T.b_abs (by decide +kernel) (fa_cons (fo_val (fe_opL (opL_int _) (pe_callTy call_int1 (by rfl) T.b_int (by decide +kernel) (fa_cons (fo_pk (pv 2)) (fa_nil))))) (fa_nil)))))) (fss_one (fs_retN (fn_lst (pe_lst (fa_cons (fo_val (fe_var (pv 1))) (fa_cons (fo_val (fe_c pe_int (.int 0) (fun _ => rfl))) (fa_cons (fo_val (fe_c pe_int (.int 0) (fun _ => rfl))) (fa_cons (fo_val (fe_op2 (op2_add _) (pe_op opr_add (fo_val (fe_c pe_int (.int 1) (fun _ => rfl))) (fo_val (fe_opL (opL_len _) (pe_callB callr_len (by rfl) T.b_len (by decide +kernel) (fa_cons (fo_pk (pv 1)) (fa_nil)))))))) (fa_cons (fo_val (fe_c pe_int (.int 0) (fun _ => rfl))) (fa_nil))))))))))
theorem sc__law_draw : FnScope N__law_draw ["hand", "many"] (defScope s__law_draw) := ⟨rfl, rfl, rfl, by decide +kernel, rfl, by decide +kernel, by decide +kernel⟩
theorem ok__law_draw (T : Txt K mg a) (base : Heap) : FnOk P w K mg base (L2.CX P w) 1 a.a__law_draw a.d__law_draw ["hand", "many"] (spF (gm K a) 2 sem__law_draw) := by
  refine fn_ok T.f__law_draw sc__law_draw body__law_draw 2 rfl 5 rfl fun cdv A outer sh H E hr => ?_
  have tk : Takes (cxOf (L2.CX P w) P w K mg base N__law_draw "_law_draw" (defScope s__law_draw) a.a__law_draw cdv A outer sh H E) (fun cls d _ H => E cls d H) := takes_of rfl rfl rfl rfl
  exact fss_cons (fs_if (PW.pt (fw_and (ft_op2 (op2_eq _) (pt_cmpR (op_eqD hr.units) (fo_val (fe_op2 (op2_ix _) (pe_ix ix_seq (fo_pk (pv 0)) (fo_val (fe_c pe_int (.int 2) (fun _ => rfl))) (fun _ _ => rfl)))) (fo_val (fe_c pe_int (.int 0) (fun _ => rfl))) (nomark _))) (fw_and1 (ft_op2 (op2_lt _) (pt_cmpR (opr_lt hr.units) (fo_val (fe_op2 (op2_ix _) (pe_ix ix_seq (fo_pk (pv 0)) (fo_val (fe_c pe_int (.int 1) (fun _ => rfl))) (fun _ _ => rfl)))) (fo_val (fe_opL (opL_len _) (pe_callB callr_len (by rfl) T.b_len (by decide +kernel) (fa_cons (fo_val (fe_op2 (op2_ix _) (pe_ix ix_seq (fo_pk (pv 0)) (fo_val (fe_c pe_int (.int 0) (fun _ => rfl))) (fun _ _ => rfl)))) (fa_nil))))) (nomark _)))))) (fss_cons (fs_set (ps_set (i := 3) sc__law_draw.nd rfl (Or.inl rfl) (fe_op2 (op2_ix _) (pe_ix ix_seq (fo_val (fe_op2 (op2_ix _) (pe_ix ix_seq (fo_pk (pv 0)) (fo_val (fe_c pe_int (.int 0) (fun _ => rfl))) (fun _ _ => rfl)))) (fo_val (fe_op2 (op2_ix _) (pe_ix ix_seq (fo_pk (pv 0)) (fo_val (fe_c pe_int (.int 1) (fun _ => rfl))) (fun _ _ => rfl)))) (fun _ _ => rfl))))) (fss_cons (fs_setIx (ps_asg (fe_op2 (op2_add _) (pe_op opr_add (fo_val (fe_op2 (op2_ix _) (pe_ix ix_seq (fo_pk (pv 0)) (fo_val (fe_c pe_int (.int 1) (fun _ => rfl))) (fun _ _ => rfl)))) (fo_val (fe_c pe_int (.int 1) (fun _ => rfl))))) (pg_sub (fo_pk (pv 0)) (fe_c pe_int (.int 1) (fun _ => rfl)) set_list))) (fss_cons (fs_setIx (ps_asg (fe_op2 (op2_mod _) (pe_op op_mod (fo_val (fe_opL (opL_int _) (pe_callTy call_int1 (by rfl) T.b_int (by decide +kernel) (fa_cons (fo_val (fe_op2 (op2_add _) (pe_op opr_add (fo_val (fe_op2 (op2_add _) (pe_op opr_add (fo_val (fe_op2 (op2_mul _) (pe_op opr_mul (fo_val (fe_op2 (op2_ix _) (pe_ix ix_seq (fo_pk (pv 0)) (fo_val (fe_c pe_int (.int 3) (fun _ => rfl))) (fun _ _ => rfl)))) (fo_val (fe_c pe_int (.int 69621) (fun _ => rfl)))))) (fo_pk (pv 3))))) (fo_val (fe_c pe_int (.int 11) (fun _ => rfl)))))) (fa_nil))))) (fo_val (fe_c pe_int (.int 2147483629) (fun _ => rfl))))) (pg_sub (fo_pk (pv 0)) (fe_c pe_int (.int 3) (fun _ => rfl)) set_list))) (fss_one (fs_if (ft_op2 (op2_ge _) (pt_cmpR opr_ge (fo_pk (pv 3)) (fo_val (fe_op2 (op2_pow _) (pe_op op_pow (fo_val (fe_c pe_int (.int 10) (fun _ => rfl))) (fo_val (fe_c pe_int (.int 18) (fun _ => rfl)))))) (nomark _))) (fss_one (fs_setIx (ps_asg (fe_var (pv 3)) (pg_sub (fo_pk (pv 0)) (fe_c pe_int (.int 2) (fun _ => rfl)) set_list)))) (fss_nil)))))) (fss_nil)) (fss_cons (fs_if (ft_op2 (op2_gt _) (pt_cmpR opr_gt (fo_val (fe_op2 (op2_ix _) (pe_ix ix_seq (fo_pk (pv 0)) (fo_val (fe_c pe_int (.int 2) (fun _ => rfl))) (fun _ _ => rfl)))) (fo_val (fe_c pe_int (.int 0) (fun _ => rfl))) (nomark _))) (fss_cons (fs_set (ps_set (i := 4) sc__law_draw.nd rfl (Or.inl rfl) (fe_op2 (op2_mod _) (pe_op op_mod (fo_val (fe_opL (opL_int _) (pe_callTy call_int1 (by rfl) T.b_int (by decide +kernel) (fa_cons (fo_val (fe_op2 (op2_ix _) (pe_ix ix_seq (fo_pk (pv 0)) (fo_val (fe_c pe_int (.int 2) (fun _ => rfl))) (fun _ _ => rfl)))) (fa_nil))))) (fo_pk (pv 1)))))) (fss_cons (fs_setIx (ps_asg (fe_op2 (op2_div _) (pe_op op_fdiv (fo_val (fe_op2 (op2_ix _) (pe_ix ix_seq (fo_pk (pv 0)) (fo_val (fe_c pe_int (.int 2) (fun _ => rfl))) (fun _ _ => rfl)))) (fo_pk (pv 1)))) (pg_sub (fo_pk (pv 0)) (fe_c pe_int (.int 2) (fun _ => rfl)) set_list))) (fss_one (fs_ret (fe_var (pv 4)))))) (fss_nil)) (fss_cons (fs_setIx (ps_asg (fe_op2 (op2_add _) (pe_op opr_add (fo_val (fe_op2 (op2_ix _) (pe_ix ix_seq (fo_pk (pv 0)) (fo_val (fe_c pe_int (.int 4) (fun _ => rfl))) (fun _ _ => rfl)))) (fo_val (fe_c pe_int (.int 1) (fun _ => rfl))))) (pg_sub (fo_pk (pv 0)) (fe_c pe_int (.int 4) (fun _ => rfl)) set_list))) (fss_cons (fs_set (ps_set (i := 2) sc__law_draw.nd rfl (Or.inl rfl) (fe_op2 (op2_mod _) (pe_op op_mod (fo_val (fe_opL (opL_int _) (pe_callTy call_int1 (by rfl) T.b_int (by decide +kernel) (fa_cons (fo_val (fe_op2 (op2_mul _) (pe_op opr_mul (fo_val (fe_opL (opL_int _) (pe_callTy call_int1 (by rfl) T.b_int (by decide +kernel) (fa_cons (fo_val (fe_op2 (op2_add _) (pe_op opr_add (fo_val (fe_op2 (op2_ix _) (pe_ix ix_seq (fo_pk (pv 0)) (fo_val (fe_c pe_int (.int 3) (fun _ => rfl))) (fun _ _ => rfl)))) (fo_val (fe_op2 (op2_mul _) (pe_op opr_mul (fo_val (fe_c pe_int (.int 7919) (fun _ => rfl))) (fo_val (fe_op2 (op2_ix _) (pe_ix ix_seq (fo_pk (pv 0)) (fo_val (fe_c pe_int (.int 4) (fun _ => rfl))) (fun _ _ => rfl)))))))))) (fa_nil))))) (fo_val (fe_c pe_int (.int 48271) (fun _ => rfl)))))) (fa_nil))))) (fo_val (fe_c pe_int (.int 2147483647) (fun _ => rfl))))))) (fss_cons (fs_set (ps_set (i := 2) sc__law_draw.nd rfl (Or.inl rfl) (fe_op2 (op2_mod _) (pe_op op_mod (fo_val (fe_opL (opL_int _) (pe_callTy call_int1 (by rfl) T.b_int (by decide +kernel) (fa_cons (fo_val (fe_op2 (op2_mul _) (pe_op opr_mul (fo_pk (pv 2)) (fo_val (fe_op2 (op2_add _) (pe_op opr_add (fo_val (fe_op2 (op2_div _) (pe_op op_fdiv (fo_pk (pv 2)) (fo_val (fe_c pe_int (.int 1009) (fun _ => rfl)))))) (fo_val (fe_c pe_int (.int 69621) (fun _ => rfl))))))))) (fa_nil))))) (fo_val (fe_c pe_int (.int 2147483647) (fun _ => rfl))))))) (fss_cons (fs_set (ps_set (i := 2) sc__law_draw.nd rfl (Or.inl rfl) (fe_op2 (op2_mod _) (pe_op op_mod (fo_val (fe_opL (opL_int _) (pe_callTy call_int1 (by rfl) T.b_int (by decide +kernel) (fa_cons (fo_val (fe_op2 (op2_mul _) (pe_op opr_mul (fo_pk (pv 2)) (fo_val (fe_op2 (op2_add _) (pe_op opr_add (fo_val (fe_op2 (op2_div _) (pe_op op_fdiv (fo_pk (pv 2)) (fo_val (fe_c pe_int (.int 2003) (fun _ => rfl)))))) (fo_val (fe_c pe_int (.int 40692) (fun _ => rfl))))))))) (fa_nil))))) (fo_val (fe_c pe_int (.int 2147483399) (fun _ => rfl))))))) (fss_one (fs_ret (fe_op2 (op2_mod _) (pe_op op_mod (fo_val (fe_opL (opL_int _) (pe_callTy call_int1 (by rfl) T.b_int (by decide +kernel) (fa_cons (fo_val (fe_op2 (op2_div _) (pe_op op_fdiv (fo_pk (pv 2)) (fo_val (fe_c pe_int (.int 16) (fun _ => rfl)))))) (fa_nil))))) (fo_pk (pv 1)))))))))))
theorem sc__law_is : FnScope N__law_is ["told", "due"] (defScope s__law_is) := ⟨rfl, rfl, rfl, by decide +kernel, rfl, by decide +kernel, by decide +kernel⟩
theorem okS__law_is (T : Txt K mg a) (base : Heap) (m : Nat) (ih : FnOk P w K mg base (L2.CX P w) (1 + m) a.a__law_is a.d__law_is ["told", "due"] (spF (gm K a) 2 (sem__law_is m))) : FnOk P w K mg base (L2.CX P w) (1 + m + 1) a.a__law_is a.d__law_is ["told", "due"] (spF (gm K a) 2 (sem__law_is (m + 1))) := by
  refine fn_ok (k := 1 + m) T.f__law_is sc__law_is (body__law_is (sem__law_is m)) 2 rfl 3 rfl fun cdv A outer sh H E hr => ?_
  have tk : Takes (cxOf (L2.CX P w) P w K mg base N__law_is "_law_is" (defScope s__law_is) a.a__law_is cdv A outer sh H E) (fun cls d _ H => E cls d H) := takes_of rfl rfl rfl rfl
  exact fss_cons (fs_if (ft_val (pt_val (fe_isiT T.insTy rfl (pe_callB call_isiT (by rfl) T.b_isinstance (by decide +kernel) (pa_cons (fo_pk (pv 1)) (pa_cons (pe_tup (fa_cons (fo_val (fe_c (pe_bltn (v := .ty "tuple") (u := .type "tuple") (by rfl) T.b_tuple (by decide +kernel) rfl) (.ty "tuple") (fun _ => rfl))) (fa_cons (fo_val (fe_c (pe_bltn (v := .ty "list") (u := .type "list") (by rfl) T.b_list (by decide +kernel) rfl) (.ty "list") (fun _ => rfl))) (fa_nil)))) pa_nil)))))) (fss_cons (fs_if (PW.pt (fw_or (ft_op2 (op2_ne _) (pt_cmpR (op_neD hr.units) (fo_val (fe_opL (opL_isi _ T.insTy T.unl) (pe_callB call_isi (by rfl) T.b_isinstance (by decide +kernel) (fa_cons (fo_pk (pv 0)) (fa_cons (fo_val (fe_c (pe_bltn (v := .ty "tuple") (u := .type "tuple") (by rfl) T.b_tuple (by decide +kernel) rfl) (.ty "tuple") (fun _ => rfl))) (fa_nil)))))) (fo_val (fe_opL (opL_isi _ T.insTy T.unl) (pe_callB call_isi (by rfl) T.b_isinstance (by decide +kernel) (fa_cons (fo_pk (pv 1)) (fa_cons (fo_val (fe_c (pe_bltn (v := .ty "tuple") (u := .type "tuple") (by rfl) T.b_tuple (by decide +kernel) rfl) (.ty "tuple") (fun _ => rfl))) (fa_nil)))))) (nomark _))) (fw_or1 (ft_op2 (op2_ne _) (pt_cmpR (op_neD hr.units) (fo_val (fe_opL (opL_isi _ T.insTy T.unl) (pe_callB call_isi (by rfl) T.b_isinstance (by decide +kernel) (fa_cons (fo_pk (pv 0)) (fa_cons (fo_val (fe_c (pe_bltn (v := .ty "list") (u := .type "list") (by rfl) T.b_list (by decide +kernel) rfl) (.ty "list") (fun _ => rfl))) (fa_nil)))))) (fo_val (fe_opL (opL_isi _ T.insTy T.unl) (pe_callB call_isi (by rfl) T.b_isinstance (by decide +kernel) (fa_cons (fo_pk (pv 1)) (fa_cons (fo_val (fe_c (pe_bltn (v := .ty "list") (u := .type "list") (by rfl) T.b_list (by decide +kernel) rfl) (.ty "list") (fun _ => rfl))) (fa_nil)))))) (nomark _)))))) (fss_one (fs_ret (fe_c pe_bl (.bl false) (fun _ => rfl)))) (fss_nil)) (fss_one (fs_ret (fe_and (pe_and (fe_op2 (op2_eq _) (pe_cmpR (op_eqD hr.units) (fo_val (fe_opL (opL_len _) (pe_callB callr_len (by rfl) T.b_len (by decide +kernel) (fa_cons (fo_pk (pv 0)) (fa_nil))))) (fo_val (fe_opL (opL_len _) (pe_callB callr_len (by rfl) T.b_len (by decide +kernel) (fa_cons (fo_pk (pv 1)) (fa_nil))))) (nomark _))) (pe_one (fe_opL (opL_all _) (pe_callB (cr_all rfl) (by rfl) T.b_all (by decide +kernel) (fa_cons (fo_val (fe_fn (fn_lc (pe_lc (own := [("k", 2)]) rfl sc__law_is.nd (fi_range1 (pi_range1 (by rfl) T.b_range (fa_cons (fo_val (fe_opL (opL_len _) (pe_callB callr_len (by rfl) T.b_len (by decide +kernel) (fa_cons (fo_pk (pv 1)) (fa_nil))))) (fa_nil)))) (blkOk_by (N := N__law_is) (sc := defScope s__law_is) (by decide +kernel)) (fun _ _ _ _ _ => fgv_name (by decide) (pg_name (i := 2) sc__law_is.nd rfl (Or.inl rfl))) (fun _ _ _ _ _ => fts_nil) (fun _ _ _ _ _ => fe_call (pe_callS ih (hr.mono (by omega)) (by rfl) T.mg__law_is T.kp__law_is T.b__law_is (fun σ => passAt takes0 σ) (fa_cons (fo_val (fe_op2 (op2_ix _) (pe_ix ix_seq (fo_pk (pv 0)) (fo_pk (pv 2)) (fun _ _ => rfl)))) (fa_cons (fo_val (fe_op2 (op2_ix _) (pe_ix ix_seq (fo_pk (pv 1)) (fo_pk (pv 2)) (fun _ _ => rfl)))) (fa_nil)))) rfl))))) (fa_nil)))))))))) (fss_nil)) (fss_cons (fs_if (PW.pt (fw_or (ft_op2 (op2_isN _) (pt_cmpR op_isN (fo_pk (pv 1)) (fo_val (fe_c pe_non .non (fun _ => rfl))) (nomark _))) (fw_or1 (ft_op2 (op2_isN _) (pt_cmpR op_isN (fo_pk (pv 0)) (fo_val (fe_c pe_non .non (fun _ => rfl))) (nomark _)))))) (fss_one (fs_ret (fe_and (pe_and (fe_op2 (op2_isN _) (pe_cmpR op_isN (fo_pk (pv 1)) (fo_val (fe_c pe_non .non (fun _ => rfl))) (nomark _))) (pe_one (fe_op2 (op2_isN _) (pe_cmpR op_isN (fo_pk (pv 0)) (fo_val (fe_c pe_non .non (fun _ => rfl))) (nomark _)))))))) (fss_nil)) (fss_cons (fs_if (PW.pt (fw_or (ft_op2 (op2_ne _) (pt_cmpR (op_neD hr.units) (fo_val (fe_opL (opL_isi _ T.insTy T.unl) (pe_callB call_isi (by rfl) T.b_isinstance (by decide +kernel) (fa_cons (fo_pk (pv 0)) (fa_cons (fo_val (fe_c (pe_bltn (v := .ty "bool") (u := .type "bool") (by rfl) T.b_bool (by decide +kernel) rfl) (.ty "bool") (fun _ => rfl))) (fa_nil)))))) (fo_val (fe_opL (opL_isi _ T.insTy T.unl) (pe_callB call_isi (by rfl) T.b_isinstance (by decide +kernel) (fa_cons (fo_pk (pv 1)) (fa_cons (fo_val (fe_c (pe_bltn (v := .ty "bool") (u := .type "bool") (by rfl) T.b_bool (by decide +kernel) rfl) (.ty "bool") (fun _ => rfl))) (fa_nil)))))) (nomark _))) (fw_or1 (ft_op2 (op2_ne _) (pt_cmpR (op_neD hr.units) (fo_val (fe_opL (opL_isi _ T.insTy T.unl) (pe_callB call_isi (by rfl) T.b_isinstance (by decide +kernel) (fa_cons (fo_pk (pv 0)) (fa_cons (fo_val (fe_c (pe_bltn (v := .ty "int") (u := .type "int") (by rfl) T.b_int (by decide +kernel) rfl) (.ty "int") (fun _ => rfl))) (fa_nil)))))) (fo_val (fe_opL (opL_isi _ T.insTy T.unl) (pe_callB call_isi (by rfl) T.b_isinstance (by decide +kernel) (fa_cons (fo_pk (pv 1)) (fa_cons (fo_val (fe_c (pe_bltn (v := .ty "int") (u := .type "int") (by rfl) T.b_int (by decide +kernel) rfl) (.ty "int") (fun _ => rfl))) (fa_nil)))))) (nomark _)))))) (fss_one (fs_ret (fe_c pe_bl (.bl false) (fun _ => rfl)))) (fss_nil)) (fss_one (fs_ret (fe_and (pe_and (fe_op2 (op2_eq _) (pe_cmpR (op_eqD hr.units) (fo_val (fe_opL (opL_isi _ T.insTy T.unl) (pe_callB call_isi (by rfl) T.b_isinstance (by decide +kernel) (fa_cons (fo_pk (pv 0)) (fa_cons (fo_val (fe_c (pe_bltn (v := .ty "str") (u := .type "str") (by rfl) T.b_str (by decide +kernel) rfl) (.ty "str") (fun _ => rfl))) (fa_nil)))))) (fo_val (fe_opL (opL_isi _ T.insTy T.unl) (pe_callB call_isi (by rfl) T.b_isinstance (by decide +kernel) (fa_cons (fo_pk (pv 1)) (fa_cons (fo_val (fe_c (pe_bltn (v := .ty "str") (u := .type "str") (by rfl) T.b_str (by decide +kernel) rfl) (.ty "str") (fun _ => rfl))) (fa_nil)))))) (nomark _))) (pe_one (fe_op2 (op2_eq _) (pe_cmpR (op_eqD hr.units) (fo_pk (pv 0)) (fo_pk (pv 1)) (nomark _))))))))))
theorem ok__law_is (T : Txt K mg a) (base : Heap) : ∀ n, FnOk P w K mg base (L2.CX P w) (1 + n) a.a__law_is a.d__law_is ["told", "due"] (spF (gm K a) 2 (sem__law_is n))
  | 0 => fn0_ok 2 rfl
  | m + 1 => okS__law_is T base m (ok__law_is T base m)
theorem sc__law_signs : FnScope N__law_signs [] (defScope s__law_signs) := ⟨rfl, rfl, rfl, by decide +kernel, rfl, by decide +kernel, by decide +kernel⟩
theorem ok__law_signs (T : Txt K mg a) (base : Heap) : FnOk P w K mg base (L2.CX P w) 1 a.a__law_signs a.d__law_signs [] (spF (gm K a) 0 sem__law_signs) := by
  refine fn_ok T.f__law_signs sc__law_signs body__law_signs 0 rfl 0 rfl fun cdv A outer sh H E hr => ?_
  have tk : Takes (cxOf (L2.CX P w) P w K mg base N__law_signs "_law_signs" (defScope s__law_signs) a.a__law_signs cdv A outer sh H E) (fun cls d _ H => E cls d H) := takes_of rfl rfl rfl rfl
  exact fss_one (fs_ret (fe_c pe_str (.str " !#$&()*+,-/0123456789:;<=>?@ABCDEFGHIJKLMNOPQRSTUVWXYZ[]^_abcdefghijklmnopqrstuvwxyz{|}~\"'\\.") (fun _ => rfl)))
theorem sc__law_is_number : FnScope N__law_is_number ["thing", "many"] (defScope s__law_is_number) := ⟨rfl, rfl, rfl, by decide +kernel, rfl, by decide +kernel, by decide +kernel⟩
theorem ok__law_is_number (T : Txt K mg a) (base : Heap) : FnOk P w K mg base (L2.CX P w) 1 a.a__law_is_number a.d__law_is_number ["thing", "many"] (spF (gm K a) 2 sem__law_is_number) := by
  refine fn_ok T.f__law_is_number sc__law_is_number body__law_is_number 2 rfl 2 rfl fun cdv A outer sh H E hr => ?_
  have tk : Takes (cxOf (L2.CX P w) P w K mg base N__law_is_number "_law_is_number" (defScope s__law_is_number) a.a__law_is_number cdv A outer sh H E) (fun cls d _ H => E cls d H) := takes_of rfl rfl rfl rfl
  exact fss_one (fs_ret (fe_and (pe_and (fe_opL (opL_isi _ T.insTy T.unl) (pe_callB call_isi (by rfl) T.b_isinstance (by decide +kernel) (fa_cons (fo_pk (pv 0)) (fa_cons (fo_val (fe_c (pe_bltn (v := .ty "int") (u := .type "int") (by rfl) T.b_int (by decide +kernel) rfl) (.ty "int") (fun _ => rfl))) (fa_nil))))) (fe_and (pe_and (fe_not (pe_not (fe_opL (opL_isi _ T.insTy T.unl) (pe_callB call_isi (by rfl) T.b_isinstance (by decide +kernel) (fa_cons (fo_pk (pv 0)) (fa_cons (fo_val (fe_c (pe_bltn (v := .ty "bool") (u := .type "bool") (by rfl) T.b_bool (by decide +kernel) rfl) (.ty "bool") (fun _ => rfl))) (fa_nil))))))) (pe_one (fe_chain (op2_le _) (op2_lt _) (pe_chain opr_le (opr_lt hr.units) (fo_val (fe_c pe_int (.int 0) (fun _ => rfl))) (fo_pk (pv 0)) (fo_pk (pv 1))))))))))
theorem sc__law_is_thing : FnScope N__law_is_thing ["thing"] (defScope s__law_is_thing) := ⟨rfl, rfl, rfl, by decide +kernel, rfl, by decide +kernel, by decide +kernel⟩
theorem ok__law_is_thing (T : Txt K mg a) (base : Heap) : FnOk P w K mg base (L2.CX P w) 1 a.a__law_is_thing a.d__law_is_thing ["thing"] (spF (gm K a) 1 sem__law_is_thing) := by
  refine fn_ok T.f__law_is_thing sc__law_is_thing body__law_is_thing 1 rfl 3 rfl fun cdv A outer sh H E hr => ?_
  have tk : Takes (cxOf (L2.CX P w) P w K mg base N__law_is_thing "_law_is_thing" (defScope s__law_is_thing) a.a__law_is_thing cdv A outer sh H E) (fun cls d _ H => E cls d H) := takes_of rfl rfl rfl rfl
  exact fss_cons (fs_setN (ps_set (i := 1) sc__law_is_thing.nd rfl (Or.inl rfl) (fn_lst (pe_lst (fa_cons (fo_val (fe_var (pv 0))) (fa_nil)))))) (fss_cons (fs_while 1000000 (ps_while (passes_of rfl) (ft_op2 (op2_gt _) (pt_cmpR opr_gt (fo_val (fe_opL (opL_len _) (pe_callB callr_len (by rfl) T.b_len (by decide +kernel) (fa_cons (fo_pk (pv 1)) (fa_nil))))) (fo_val (fe_c pe_int (.int 0) (fun _ => rfl))) (nomark _))) (fss_cons (fs_set (ps_set (i := 2) sc__law_is_thing.nd rfl (Or.inl rfl) (fe_mt0 mtok_pop (pe_bm0 PySem.F.plainAttrs_list PySem.F.slot_list_pop PySem.F.type_list_pop mt_pop (fo_pk (pv 1)))))) (fss_one (fs_if (ft_val (pt_val (fe_opL (opL_isi _ T.insTy T.unl) (pe_callB call_isi (by rfl) T.b_isinstance (by decide +kernel) (fa_cons (fo_pk (pv 2)) (fa_cons (fo_val (fe_c (pe_bltn (v := .ty "tuple") (u := .type "tuple") (by rfl) T.b_tuple (by decide +kernel) rfl) (.ty "tuple") (fun _ => rfl))) (fa_nil))))))) (fss_one (fs_expr (ps_expr (fe_mt mtok_extend (pe_bm PySem.F.plainAttrs_list PySem.F.slot_list_extend PySem.F.type_list_extend mt_extendA (fo_pk (pv 1)) (fa_cons (fo_val (fe_fn (fn_opL (opN_list _) (pe_callTy call_list_of (by rfl) T.b_list (by decide +kernel) (fa_cons (fo_pk (pv 2)) (fa_nil)))))) (fa_nil))))))) (fss_one (fs_if (PW.pt (fw_and (ft_op2 (op2_notN _) (pt_cmpR op_notN (fo_pk (pv 2)) (fo_val (fe_c pe_non .non (fun _ => rfl))) (nomark _))) (fw_and1 (ft_not (ft_val (pt_val (fe_isiT T.insTy rfl (pe_callB call_isiT (by rfl) T.b_isinstance (by decide +kernel) (pa_cons (fo_pk (pv 2)) (pa_cons (pe_tup (fa_cons (fo_val (fe_c (pe_bltn (v := .ty "int") (u := .type "int") (by rfl) T.b_int (by decide +kernel) rfl) (.ty "int") (fun _ => rfl))) (fa_cons (fo_val (fe_c (pe_bltn (v := .ty "str") (u := .type "str") (by rfl) T.b_str (by decide +kernel) rfl) (.ty "str") (fun _ => rfl))) (fa_nil)))) pa_nil)))))))))) (fss_one (fs_ret (fe_c pe_bl (.bl false) (fun _ => rfl)))) (fss_nil)))))))) (fss_one (fs_ret (fe_c pe_bl (.bl true) (fun _ => rfl)))))
theorem sc__law_wrapped : FnScope N__law_wrapped ["thing", "many", "kind"] (defScope s__law_wrapped) := ⟨rfl, rfl, rfl, by decide +kernel, rfl, by decide +kernel, by decide +kernel⟩
theorem ok__law_wrapped (T : Txt K mg a) (base : Heap) : FnOk P w K mg base (L2.CX P w) 1 a.a__law_wrapped a.d__law_wrapped ["thing", "many", "kind"] (spF (gm K a) 3 sem__law_wrapped) := by
  refine fn_ok T.f__law_wrapped sc__law_wrapped body__law_wrapped 3 rfl 4 rfl fun cdv A outer sh H E hr => ?_
  have tk : Takes (cxOf (L2.CX P w) P w K mg base N__law_wrapped "_law_wrapped" (defScope s__law_wrapped) a.a__law_wrapped cdv A outer sh H E) (fun cls d _ H => E cls d H) := takes_of rfl rfl rfl rfl
  exact fss_cons (fs_for (ps_for (passes_of rfl) rfl (fi_range1 (pi_range1 (by rfl) T.b_range (fa_cons (fo_val (fe_var (pv 1))) (fa_nil)))) (fg_name (pg_name (i := 3) sc__law_wrapped.nd rfl (Or.inl rfl))) (fss_one (fs_set (ps_set (i := 0) sc__law_wrapped.nd rfl (Or.inl rfl) (fe_if (ft_op2 (op2_eq _) (pt_cmpR (op_eqD hr.units) (fo_pk (pv 2)) (fo_val (fe_c pe_int (.int 0) (fun _ => rfl))) (nomark _))) (fe_tup (pe_tup (fa_cons (fo_val (fe_var (pv 0))) (fa_nil)))) (fe_fn (fn_lst (pe_lst (fa_cons (fo_val (fe_var (pv 0))) (fa_nil))))))))))) (fss_one (fs_ret (fe_var (pv 0))))
theorem sc__law_ear : FnScope N__law_ear ["letter", "thing"] (defScope s__law_ear) := ⟨rfl, rfl, rfl, by decide +kernel, rfl, by decide +kernel, by decide +kernel⟩
theorem ok__law_ear (T : Txt K mg a) (base : Heap) : FnOk P w K mg base (L2.CX P w) 1 a.a__law_ear a.d__law_ear ["letter", "thing"] (spF (gm K a) 2 sem__law_ear) := by
  refine fn_ok T.f__law_ear sc__law_ear body__law_ear 2 rfl 2 rfl fun cdv A outer sh H E hr => ?_
  have tk : Takes (cxOf (L2.CX P w) P w K mg base N__law_ear "_law_ear" (defScope s__law_ear) a.a__law_ear cdv A outer sh H E) (fun cls d _ H => E cls d H) := takes_of rfl rfl rfl rfl
  exact fss_one (fs_ret (fe_if (ft_op2 (op2_eq _) (pt_cmpR (op_eqD hr.units) (fo_val (fe_op2 (op2_mod _) (pe_op op_mod (fo_val (fe_opL (opL_int _) (pe_callTy call_int1 (by rfl) T.b_int (by decide +kernel) (fa_cons (fo_pk (pv 0)) (fa_nil))))) (fo_val (fe_c pe_int (.int 3) (fun _ => rfl)))))) (fo_val (fe_c pe_int (.int 0) (fun _ => rfl))) (nomark _))) (fe_tup (pe_tup (fa_nil))) (fe_tup (pe_tup (fa_cons (fo_val (fe_tup (pe_tup (fa_cons (fo_val (fe_var (pv 0))) (fa_cons (fo_val (fe_var (pv 1))) (fa_nil)))))) (fa_nil))))))
theorem sc__law_twin : FnScope N__law_twin ["thing"] (defScope s__law_twin) := ⟨rfl, rfl, rfl, by decide +kernel, rfl, by decide +kernel, by decide +kernel⟩
theorem okS__law_twin (T : Txt K mg a) (base : Heap) (m : Nat) (ih : FnOk P w K mg base (L2.CX P w) (1 + m) a.a__law_twin a.d__law_twin ["thing"] (spF (gm K a) 1 (sem__law_twin m))) : FnOk P w K mg base (L2.CX P w) (1 + m + 1) a.a__law_twin a.d__law_twin ["thing"] (spF (gm K a) 1 (sem__law_twin (m + 1))) := by
  refine fn_ok (k := 1 + m) T.f__law_twin sc__law_twin (body__law_twin (sem__law_twin m)) 1 rfl 2 rfl fun cdv A outer sh H E hr => ?_
  have tk : Takes (cxOf (L2.CX P w) P w K mg base N__law_twin "_law_twin" (defScope s__law_twin) a.a__law_twin cdv A outer sh H E) (fun cls d _ H => E cls d H) := takes_of rfl rfl rfl rfl
  exact fss_cons (fs_if (PW.pt (fw_or (ft_op2 (op2_isB _) (pt_cmpR op_isBA (fo_pk (pv 0)) (fo_val (fe_c pe_bl (.bl true) (fun _ => rfl))) (nomark _))) (fw_or1 (ft_op2 (op2_isB _) (pt_cmpR op_isBA (fo_pk (pv 0)) (fo_val (fe_c pe_bl (.bl false) (fun _ => rfl))) (nomark _)))))) (fss_one (fs_ret (fe_if (ft_op2 (op2_isB _) (pt_cmpR op_isBA (fo_pk (pv 0)) (fo_val (fe_c pe_bl (.bl true) (fun _ => rfl))) (nomark _))) (fe_c pe_int (.int 1) (fun _ => rfl)) (fe_c pe_int (.int 0) (fun _ => rfl))))) (fss_nil)) (fss_cons (fs_if (PW.pt (fw_and (ft_val (pt_val (fe_opL (opL_isi _ T.insTy T.unl) (pe_callB call_isi (by rfl) T.b_isinstance (by decide +kernel) (fa_cons (fo_pk (pv 0)) (fa_cons (fo_val (fe_c (pe_bltn (v := .ty "int") (u := .type "int") (by rfl) T.b_int (by decide +kernel) rfl) (.ty "int") (fun _ => rfl))) (fa_nil))))))) (fw_and1 (PW.pt (fw_or (ft_op2 (op2_eq _) (pt_cmpR (op_eqD hr.units) (fo_pk (pv 0)) (fo_val (fe_c pe_int (.int 0) (fun _ => rfl))) (nomark _))) (fw_or1 (ft_op2 (op2_eq _) (pt_cmpR (op_eqD hr.units) (fo_pk (pv 0)) (fo_val (fe_c pe_int (.int 1) (fun _ => rfl))) (nomark _))))))))) (fss_one (fs_ret (fe_op2 (op2_eq _) (pe_cmpR (op_eqD hr.units) (fo_pk (pv 0)) (fo_val (fe_c pe_int (.int 1) (fun _ => rfl))) (nomark _))))) (fss_nil)) (fss_cons (fs_if (ft_val (pt_val (fe_opL (opL_isi _ T.insTy T.unl) (pe_callB call_isi (by rfl) T.b_isinstance (by decide +kernel) (fa_cons (fo_pk (pv 0)) (fa_cons (fo_val (fe_c (pe_bltn (v := .ty "tuple") (u := .type "tuple") (by rfl) T.b_tuple (by decide +kernel) rfl) (.ty "tuple") (fun _ => rfl))) (fa_nil))))))) (fss_one (fs_ret (fe_opL (opL_tuple _) (pe_callTy call_tuple_of (by rfl) T.b_tuple (by decide +kernel) (fa_cons (fo_val (fe_fn (fn_lc (pe_lc (own := [("one", 1)]) rfl sc__law_twin.nd (fi_any rfl (pi_any (fe_var (pv 0)))) (blkOk_by (N := N__law_twin) (sc := defScope s__law_twin) (by decide +kernel)) (fun _ _ _ _ _ => fgv_name (by decide) (pg_name (i := 1) sc__law_twin.nd rfl (Or.inl rfl))) (fun _ _ _ _ _ => fts_nil) (fun _ _ _ _ _ => fe_call (pe_callS ih (hr.mono (by omega)) (by rfl) T.mg__law_twin T.kp__law_twin T.b__law_twin (fun σ => passAt takes0 σ) (fa_cons (fo_val (fe_var (pv 1))) (fa_nil))) rfl))))) (fa_nil)))))) (fss_nil)) (fss_one (fs_ret (fe_var (pv 0))))))
theorem ok__law_twin (T : Txt K mg a) (base : Heap) : ∀ n, FnOk P w K mg base (L2.CX P w) (1 + n) a.a__law_twin a.d__law_twin ["thing"] (spF (gm K a) 1 (sem__law_twin n))
  | 0 => fn0_ok 1 rfl
  | m + 1 => okS__law_twin T base m (ok__law_twin T base m)
theorem sc_is_between : FnScope N_is_between ["thing", "low", "high"] (defScope s_is_between) := ⟨rfl, rfl, rfl, by decide +kernel, rfl, by decide +kernel, by decide +kernel⟩
theorem ok_is_between (T : Txt K mg a) (base : Heap) : FnOk P w K mg base (L2.CX P w) 2 a.a_is_between a.d_is_between ["thing", "low", "high"] (spF (gm K a) 3 sem_is_between) := by
  refine fn_ok T.f_is_between sc_is_between body_is_between 3 rfl 3 rfl fun cdv A outer sh H E hr => ?_
  have tk : Takes (cxOf (L2.CX P w) P w K mg base N_is_between "is_between" (defScope s_is_between) a.a_is_between cdv A outer sh H E) (fun cls d _ H => E cls d H) := takes_of rfl rfl rfl rfl
  exact fss_one (fs_ret (fe_and (pe_and (fe_call (pe_callS (ok_is_integer T base) (hr.mono (by decide)) (by rfl) T.mg_is_integer T.kp_is_integer T.b_is_integer (fun σ => passAt tk σ) (fa_cons (fo_val (fe_var (pv 0))) (fa_nil))) rfl) (pe_one (fe_chain (op2_le _) (op2_le _) (pe_chain opr_le opr_le (fo_pk (pv 1)) (fo_pk (pv 0)) (fo_pk (pv 2))))))))
theorem sc_is_thing : FnScope N_is_thing ["thing"] (defScope s_is_thing) := ⟨rfl, rfl, rfl, by decide +kernel, rfl, by decide +kernel, by decide +kernel⟩
theorem ok_is_thing (T : Txt K mg a) (base : Heap) : FnOk P w K mg base (L2.CX P w) 2 a.a_is_thing a.d_is_thing ["thing"] (spF (gm K a) 1 sem_is_thing) := by
  refine fn_ok T.f_is_thing sc_is_thing body_is_thing 1 rfl 3 rfl fun cdv A outer sh H E hr => ?_
  have tk : Takes (cxOf (L2.CX P w) P w K mg base N_is_thing "is_thing" (defScope s_is_thing) a.a_is_thing cdv A outer sh H E) (fun cls d _ H => E cls d H) := takes_of rfl rfl rfl rfl
  exact fss_cons (fs_setN (ps_set (i := 1) sc_is_thing.nd rfl (Or.inl rfl) (fn_lst (pe_lst (fa_cons (fo_val (fe_var (pv 0))) (fa_nil)))))) (fss_cons (fs_while 1000000 (ps_while (passes_of rfl) (ft_op2 (op2_gt _) (pt_cmpR opr_gt (fo_val (fe_opL (opL_len _) (pe_callB callr_len (by rfl) T.b_len (by decide +kernel) (fa_cons (fo_pk (pv 1)) (fa_nil))))) (fo_val (fe_c pe_int (.int 0) (fun _ => rfl))) (nomark _))) (fss_cons (fs_set (ps_set (i := 2) sc_is_thing.nd rfl (Or.inl rfl) (fe_mt0 mtok_pop (pe_bm0 PySem.F.plainAttrs_list PySem.F.slot_list_pop PySem.F.type_list_pop mt_pop (fo_pk (pv 1)))))) (fss_one (fs_if (ft_val (pt_val (fe_opL (opL_isi _ T.insTy T.unl) (pe_callB call_isi (by rfl) T.b_isinstance (by decide +kernel) (fa_cons (fo_pk (pv 2)) (fa_cons (fo_val (fe_c (pe_bltn (v := .ty "tuple") (u := .type "tuple") (by rfl) T.b_tuple (by decide +kernel) rfl) (.ty "tuple") (fun _ => rfl))) (fa_nil))))))) (fss_one (fs_expr (ps_expr (fe_mt mtok_extend (pe_bm PySem.F.plainAttrs_list PySem.F.slot_list_extend PySem.F.type_list_extend mt_extendA (fo_pk (pv 1)) (fa_cons (fo_val (fe_var (pv 2))) (fa_nil))))))) (fss_one (fs_if (ft_not (ft_val (pt_val (fe_call (pe_callS (ok_is_leaf T base) (hr.mono (by decide)) (by rfl) T.mg_is_leaf T.kp_is_leaf T.b_is_leaf (fun σ => passAt tk σ) (fa_cons (fo_val (fe_var (pv 2))) (fa_nil))) rfl)))) (fss_one (fs_ret (fe_c pe_bl (.bl false) (fun _ => rfl)))) (fss_nil)))))))) (fss_one (fs_ret (fe_c pe_bl (.bl true) (fun _ => rfl)))))
theorem sc_Hearing_ear : FnScope N_Hearing_ear ["self", "letter", "thing"] (defScope s_Hearing_ear) := ⟨rfl, rfl, rfl, by decide +kernel, rfl, by decide +kernel, by decide +kernel⟩
theorem ok_Hearing_ear (T : Txt K mg a) (base : Heap) : FnOk P w K mg base (L2.CX P w) 2 a.a_Hearing_ear a.d_Hearing_ear ["self", "letter", "thing"] (spF (gm K a) 3 sem_Hearing_ear) := by
  refine fn_ok T.f_Hearing_ear sc_Hearing_ear body_Hearing_ear 3 rfl 3 rfl fun cdv A outer sh H E hr => ?_
  have tk : Takes (cxOf (L2.CX P w) P w K mg base N_Hearing_ear "Hearing.ear" (defScope s_Hearing_ear) a.a_Hearing_ear cdv A outer sh H E) (fun cls d _ H => E cls d H) := takes_of rfl rfl rfl rfl
  exact fss_one (fs_ret (fe_fldC (fa := (fun k => match k with | 0 => a.a__law_ear | _ => 0)) 0 (by decide) rfl rfl T.cl T.na_hearing (fun k hk => match k, hk with | 0, _ => rfl | _ + 1, h => absurd h (by simp)) (pe_some (fun k hk => match k, hk with | 0, _ => pe_fldC (fo_pk (pv 0)) T.kp__law_ear (ok__law_ear T base) (hr.mono (by decide)) T.b__law_ear (fun σ => passAt tk σ) (fa_cons (fo_val (fe_var (pv 1))) (fa_cons (fo_val (fe_var (pv 2))) (fa_nil))) | _ + 1, h => absurd h (by simp)))))
theorem sc__law_some : FnScope N__law_some ["hand", "things"] (defScope s__law_some) := ⟨rfl, rfl, rfl, by decide +kernel, rfl, by decide +kernel, by decide +kernel⟩
theorem ok__law_some (T : Txt K mg a) (base : Heap) : FnOk P w K mg base (L2.CX P w) 2 a.a__law_some a.d__law_some ["hand", "things"] (spF (gm K a) 2 sem__law_some) := by
  refine fn_ok T.f__law_some sc__law_some body__law_some 2 rfl 2 rfl fun cdv A outer sh H E hr => ?_
  have tk : Takes (cxOf (L2.CX P w) P w K mg base N__law_some "_law_some" (defScope s__law_some) a.a__law_some cdv A outer sh H E) (fun cls d _ H => E cls d H) := takes_of rfl rfl rfl rfl
  exact fss_one (fs_ret (fe_op2 (op2_ix _) (pe_ix ix_seq (fo_pk (pv 1)) (fo_val (fe_call (pe_callS (ok__law_draw T base) (hr.mono (by decide)) (by rfl) T.mg__law_draw T.kp__law_draw T.b__law_draw (fun σ => passAt tk σ) (fa_cons (fo_pk (pv 0)) (fa_cons (fo_val (fe_opL (opL_len _) (pe_callB callr_len (by rfl) T.b_len (by decide +kernel) (fa_cons (fo_pk (pv 1)) (fa_nil))))) (fa_nil)))) rfl)) (fun _ _ => rfl))))
theorem sc__law_rising : FnScope N__law_rising ["thing"] (defScope s__law_rising) := ⟨rfl, rfl, rfl, by decide +kernel, rfl, by decide +kernel, by decide +kernel⟩
theorem ok__law_rising (T : Txt K mg a) (base : Heap) : FnOk P w K mg base (L2.CX P w) 2 a.a__law_rising a.d__law_rising ["thing"] (spF (gm K a) 1 sem__law_rising) := by
  refine fn_ok T.f__law_rising sc__law_rising body__law_rising 1 rfl 2 rfl fun cdv A outer sh H E hr => ?_
  have tk : Takes (cxOf (L2.CX P w) P w K mg base N__law_rising "_law_rising" (defScope s__law_rising) a.a__law_rising cdv A outer sh H E) (fun cls d _ H => E cls d H) := takes_of rfl rfl rfl rfl
  exact fss_cons (fs_if (ft_not (ft_val (pt_val (fe_opL (opL_isi _ T.insTy T.unl) (pe_callB call_isi (by rfl) T.b_isinstance (by decide +kernel) (fa_cons (fo_pk (pv 0)) (fa_cons (fo_val (fe_c (pe_bltn (v := .ty "tuple") (u := .type "tuple") (by rfl) T.b_tuple (by decide +kernel) rfl) (.ty "tuple") (fun _ => rfl))) (fa_nil)))))))) (fss_one (fs_ret (fe_c pe_bl (.bl false) (fun _ => rfl)))) (fss_nil)) (fss_cons (fs_for (ps_for (passes_of rfl) rfl (fi_range1 (pi_range1 (by rfl) T.b_range (fa_cons (fo_val (fe_opL (opL_len _) (pe_callB callr_len (by rfl) T.b_len (by decide +kernel) (fa_cons (fo_pk (pv 0)) (fa_nil))))) (fa_nil)))) (fg_name (pg_name (i := 1) sc__law_rising.nd rfl (Or.inl rfl))) (fss_one (fs_if (PW.pt (fw_or (ft_not (ft_val (pt_val (fe_call (pe_callS (ok__law_is_number T base) (hr.mono (by decide)) (by rfl) T.mg__law_is_number T.kp__law_is_number T.b__law_is_number (fun σ => passAt tk σ) (fa_cons (fo_val (fe_op2 (op2_ix _) (pe_ix ix_seq (fo_pk (pv 0)) (fo_pk (pv 1)) (fun _ _ => rfl)))) (fa_cons (fo_val (fe_c pe_int (.int 60) (fun _ => rfl))) (fa_nil)))) rfl)))) (fw_or1 (PW.pt (fw_and (ft_op2 (op2_gt _) (pt_cmpR opr_gt (fo_pk (pv 1)) (fo_val (fe_c pe_int (.int 0) (fun _ => rfl))) (nomark _))) (fw_and1 (ft_op2 (op2_le _) (pt_cmpR opr_le (fo_val (fe_op2 (op2_ix _) (pe_ix ix_seq (fo_pk (pv 0)) (fo_pk (pv 1)) (fun _ _ => rfl)))) (fo_val (fe_op2 (op2_ix _) (pe_ix ix_seq (fo_pk (pv 0)) (fo_val (fe_op2 (op2_sub _) (pe_op op_sub (fo_pk (pv 1)) (fo_val (fe_c pe_int (.int 1) (fun _ => rfl)))))) (fun _ _ => rfl)))) (nomark _))))))))) (fss_one (fs_ret (fe_c pe_bl (.bl false) (fun _ => rfl)))) (fss_nil))))) (fss_one (fs_ret (fe_c pe_bl (.bl true) (fun _ => rfl)))))
theorem sc_is_lot : FnScope N_is_lot ["thing", "below"] (defScope s_is_lot) := ⟨rfl, rfl, rfl, by decide +kernel, rfl, by decide +kernel, by decide +kernel⟩
theorem ok_is_lot (T : Txt K mg a) (base : Heap) : FnOk P w K mg base (L2.CX P w) 3 a.a_is_lot a.d_is_lot ["thing", "below"] (spF (gm K a) 2 sem_is_lot) := by
  refine fn_ok T.f_is_lot sc_is_lot body_is_lot 2 rfl 4 rfl fun cdv A outer sh H E hr => ?_
  have tk : Takes (cxOf (L2.CX P w) P w K mg base N_is_lot "is_lot" (defScope s_is_lot) a.a_is_lot cdv A outer sh H E) (fun cls d _ H => E cls d H) := takes_of rfl rfl rfl rfl
  exact fss_cons (fs_if (PW.pt (fw_or (ft_not (ft_val (pt_val (fe_opL (opL_isi _ T.insTy T.unl) (pe_callB call_isi (by rfl) T.b_isinstance (by decide +kernel) (fa_cons (fo_pk (pv 0)) (fa_cons (fo_val (fe_c (pe_bltn (v := .ty "tuple") (u := .type "tuple") (by rfl) T.b_tuple (by decide +kernel) rfl) (.ty "tuple") (fun _ => rfl))) (fa_nil)))))))) (fw_or1 (ft_not (ft_val (pt_val (fe_opL (opL_all _) (pe_callB (cr_all rfl) (by rfl) T.b_all (by decide +kernel) (fa_cons (fo_val (fe_fn (fn_lc (pe_lc (own := [("one", 2)]) rfl sc_is_lot.nd (fi_any rfl (pi_any (fe_var (pv 0)))) (blkOk_by (N := N_is_lot) (sc := defScope s_is_lot) (by decide +kernel)) (fun _ _ _ _ _ => fgv_name (by decide) (pg_name (i := 2) sc_is_lot.nd rfl (Or.inl rfl))) (fun _ _ _ _ _ => fts_nil) (fun _ _ _ _ _ => fe_call (pe_callS (ok_is_between T base) (hr.mono (by decide)) (by rfl) T.mg_is_between T.kp_is_between T.b_is_between (fun σ => passAt takes0 σ) (fa_cons (fo_val (fe_var (pv 2))) (fa_cons (fo_val (fe_c pe_int (.int 0) (fun _ => rfl))) (fa_cons (fo_val (fe_op2 (op2_sub _) (pe_op op_sub (fo_pk (pv 1)) (fo_val (fe_c pe_int (.int 1) (fun _ => rfl)))))) (fa_nil))))) rfl))))) (fa_nil)))))))))) (fss_one (fs_ret (fe_c pe_bl (.bl false) (fun _ => rfl)))) (fss_nil)) (fss_one (fs_ret (fe_opL (opL_all _) (pe_callB (cr_all rfl) (by rfl) T.b_all (by decide +kernel) (fa_cons (fo_val (fe_fn (fn_lc (pe_lc (own := [("one", 2), ("other", 3)]) rfl sc_is_lot.nd (fi_zip rfl (RZ.pi_zipA (by rfl) T.b_zip (fa_cons (fo_val (fe_var (pv 0))) (fa_cons (fo_val (fe_sl rfl (pe_slice slr_all (fo_pk (pv 0)) (fp_some (fe_c pe_int (.int 1) (fun _ => rfl))) (fp_none)))) (fa_nil))))) (blkOk_by (N := N_is_lot) (sc := defScope s_is_lot) (by decide +kernel)) (fun _ _ _ _ _ => fgv_tup rfl (fgvs_cons (fgv_name (by decide) (pg_name (i := 2) sc_is_lot.nd rfl (Or.inl rfl))) (fgvs_cons (fgv_name (by decide) (pg_name (i := 3) sc_is_lot.nd rfl (Or.inl rfl))) (fgvs_nil))) rfl) (fun _ _ _ _ _ => fts_nil) (fun _ _ _ _ _ => fe_op2 (op2_lt _) (pe_cmpR (opr_lt hr.units) (fo_pk (pv 2)) (fo_pk (pv 3)) (nomark _))))))) (fa_nil))))))
theorem sc_is_turn : FnScope N_is_turn ["thing"] (defScope s_is_turn) := ⟨rfl, rfl, rfl, by decide +kernel, rfl, by decide +kernel, by decide +kernel⟩
theorem ok_is_turn (T : Txt K mg a) (base : Heap) : FnOk P w K mg base (L2.CX P w) 3 a.a_is_turn a.d_is_turn ["thing"] (spF (gm K a) 1 sem_is_turn) := by
  obtain ⟨u_MOST_LETTERS, m_MOST_LETTERS, r_MOST_LETTERS⟩ := T.k_MOST_LETTERS
  refine fn_ok T.f_is_turn sc_is_turn body_is_turn 1 rfl 1 rfl fun cdv A outer sh H E hr => ?_
  have tk : Takes (cxOf (L2.CX P w) P w K mg base N_is_turn "is_turn" (defScope s_is_turn) a.a_is_turn cdv A outer sh H E) (fun cls d _ H => E cls d H) := takes_of rfl rfl rfl rfl
  exact fss_one (fs_ret (fe_and (pe_and (fe_call (pe_callS (ok_is_sized T base) (hr.mono (by decide)) (by rfl) T.mg_is_sized T.kp_is_sized T.b_is_sized (fun σ => passAt tk σ) (fa_cons (fo_val (fe_var (pv 0))) (fa_cons (fo_val (fe_c pe_int (.int 2) (fun _ => rfl))) (fa_cons (fo_val (fe_c pe_int (.int 2) (fun _ => rfl))) (fa_nil))))) rfl) (fe_and (pe_and (fe_call (pe_callS (ok_is_between T base) (hr.mono (by decide)) (by rfl) T.mg_is_between T.kp_is_between T.b_is_between (fun σ => passAt tk σ) (fa_cons (fo_val (fe_op2 (op2_ix _) (pe_ix ix_seq (fo_pk (pv 0)) (fo_val (fe_c pe_int (.int 0) (fun _ => rfl))) (fun _ _ => rfl)))) (fa_cons (fo_val (fe_c pe_int (.int 0) (fun _ => rfl))) (fa_cons (fo_val (fe_op2 (op2_sub _) (pe_op op_sub (fo_val (fe_c (pe_glob (v := .int 60) (by rfl) m_MOST_LETTERS r_MOST_LETTERS) (.int 60) (fun _ => rfl))) (fo_val (fe_c pe_int (.int 1) (fun _ => rfl)))))) (fa_nil))))) rfl) (pe_one (fe_call (pe_callS (ok_is_thing T base) (hr.mono (by decide)) (by rfl) T.mg_is_thing T.kp_is_thing T.b_is_thing (fun σ => passAt tk σ) (fa_cons (fo_val (fe_op2 (op2_ix _) (pe_ix ix_seq (fo_pk (pv 0)) (fo_val (fe_c pe_int (.int 1) (fun _ => rfl))) (fun _ _ => rfl)))) (fa_nil))) rfl)))))))
theorem sc__law_word : FnScope N__law_word ["hand"] (defScope s__law_word) := ⟨rfl, rfl, rfl, by decide +kernel, rfl, by decide +kernel, by decide +kernel⟩
theorem ok__law_word (T : Txt K mg a) (base : Heap) : FnOk P w K mg base (L2.CX P w) 3 a.a__law_word a.d__law_word ["hand"] (spF (gm K a) 1 sem__law_word) := by
  refine fn_ok T.f__law_word sc__law_word body__law_word 1 rfl 4 rfl fun cdv A outer sh H E hr => ?_
  have tk : Takes (cxOf (L2.CX P w) P w K mg base N__law_word "_law_word" (defScope s__law_word) a.a__law_word cdv A outer sh H E) (fun cls d _ H => E cls d H) := takes_of rfl rfl rfl rfl
  exact fss_cons (fs_asg (ps_asg (fe_tup (pe_tup (fa_cons (fo_val (fe_call0 (pe_callS0 (ok__law_signs T base) (hr.mono (by decide)) (by rfl) T.mg__law_signs T.kp__law_signs T.b__law_signs (fun σ => passAt tk σ)))) (fa_cons (fo_val (fe_call (pe_callS (ok__law_some T base) (hr.mono (by decide)) (by rfl) T.mg__law_some T.kp__law_some T.b__law_some (fun σ => passAt tk σ) (fa_cons (fo_pk (pv 0)) (fa_cons (fo_val (fe_fn (fn_lst (pe_lst (fa_cons (fo_val (fe_c pe_int (.int 0) (fun _ => rfl))) (fa_cons (fo_val (fe_c pe_int (.int 1) (fun _ => rfl))) (fa_cons (fo_val (fe_c pe_int (.int 1) (fun _ => rfl))) (fa_cons (fo_val (fe_c pe_int (.int 2) (fun _ => rfl))) (fa_cons (fo_val (fe_c pe_int (.int 3) (fun _ => rfl))) (fa_cons (fo_val (fe_c pe_int (.int 5) (fun _ => rfl))) (fa_cons (fo_val (fe_c pe_int (.int 40) (fun _ => rfl))) (fa_nil)))))))))))) (fa_nil)))) rfl)) (fa_nil))))) (fg_tup rfl (fgs_cons (fg_name (pg_name (i := 1) sc__law_word.nd rfl (Or.inr rfl))) (fgs_cons (fg_name (pg_name (i := 2) sc__law_word.nd rfl (Or.inl rfl))) (fgs_nil))) rfl))) (fss_one (fs_ret (fe_join rfl (pe_join (fo_val (fe_c pe_str (.str "") (fun _ => rfl))) (fo_val (fe_fn (fn_lc (pe_lc (own := [("turn", 3)]) rfl sc__law_word.nd (fi_range1 (pi_range1 (by rfl) T.b_range (fa_cons (fo_val (fe_var (pv 2))) (fa_nil)))) (blkOk_by (N := N__law_word) (sc := defScope s__law_word) (by decide +kernel)) (fun _ _ _ _ _ => fgv_name (by decide) (pg_name (i := 3) sc__law_word.nd rfl (Or.inl rfl))) (fun _ _ _ _ _ => fts_nil) (fun _ _ _ _ _ => fe_call (pe_callS (ok__law_some T base) (hr.mono (by decide)) (by rfl) T.mg__law_some T.kp__law_some T.b__law_some (fun σ => passAt takes0 σ) (fa_cons (fo_pk (pv 0)) (fa_cons (fo_val (fe_var (pv 1))) (fa_nil)))) rfl)))))))))
theorem sc__law_part : FnScope N__law_part ["gone", "turns"] (defScope s__law_part) := ⟨rfl, rfl, rfl, by decide +kernel, rfl, by decide +kernel, by decide +kernel⟩
theorem ok__law_part (T : Txt K mg a) (base : Heap) : FnOk P w K mg base (L2.CX P w) 3 a.a__law_part a.d__law_part ["gone", "turns"] (spF (gm K a) 2 sem__law_part) := by
  refine fn_ok T.f__law_part sc__law_part body__law_part 2 rfl 4 rfl fun cdv A outer sh H E hr => ?_
  have tk : Takes (cxOf (L2.CX P w) P w K mg base N__law_part "_law_part" (defScope s__law_part) a.a__law_part cdv A outer sh H E) (fun cls d _ H => E cls d H) := takes_of rfl rfl rfl rfl
  exact fss_cons (fs_if (ft_not (ft_val (pt_val (fe_call (pe_callS (ok__law_rising T base) (hr.mono (by decide)) (by rfl) T.mg__law_rising T.kp__law_rising T.b__law_rising (fun σ => passAt tk σ) (fa_cons (fo_val (fe_var (pv 0))) (fa_nil))) rfl)))) (fss_one (fs_ret (fe_c pe_str (.str "lost") (fun _ => rfl)))) (fss_nil)) (fss_cons (fs_if (ft_not (ft_val (pt_val (fe_opL (opL_isi _ T.insTy T.unl) (pe_callB call_isi (by rfl) T.b_isinstance (by decide +kernel) (fa_cons (fo_pk (pv 1)) (fa_cons (fo_val (fe_c (pe_bltn (v := .ty "tuple") (u := .type "tuple") (by rfl) T.b_tuple (by decide +kernel) rfl) (.ty "tuple") (fun _ => rfl))) (fa_nil)))))))) (fss_one (fs_ret (fe_c pe_str (.str "turned") (fun _ => rfl)))) (fss_nil)) (fss_cons (fs_for (ps_for (passes_of rfl) rfl (fi_range1 (pi_range1 (by rfl) T.b_range (fa_cons (fo_val (fe_opL (opL_len _) (pe_callB callr_len (by rfl) T.b_len (by decide +kernel) (fa_cons (fo_pk (pv 1)) (fa_nil))))) (fa_nil)))) (fg_name (pg_name (i := 2) sc__law_part.nd rfl (Or.inl rfl))) (fss_cons (fs_set (ps_set (i := 3) sc__law_part.nd rfl (Or.inl rfl) (fe_op2 (op2_ix _) (pe_ix ix_seq (fo_pk (pv 1)) (fo_pk (pv 2)) (fun _ _ => rfl))))) (fss_cons (fs_if (PW.pt (fw_or (ft_not (ft_val (pt_val (fe_opL (opL_isi _ T.insTy T.unl) (pe_callB call_isi (by rfl) T.b_isinstance (by decide +kernel) (fa_cons (fo_pk (pv 3)) (fa_cons (fo_val (fe_c (pe_bltn (v := .ty "tuple") (u := .type "tuple") (by rfl) T.b_tuple (by decide +kernel) rfl) (.ty "tuple") (fun _ => rfl))) (fa_nil)))))))) (fw_or (ft_op2 (op2_ne _) (pt_cmpR (op_neD hr.units) (fo_val (fe_opL (opL_len _) (pe_callB callr_len (by rfl) T.b_len (by decide +kernel) (fa_cons (fo_pk (pv 3)) (fa_nil))))) (fo_val (fe_c pe_int (.int 2) (fun _ => rfl))) (nomark _))) (fw_or1 (ft_not (ft_val (pt_val (fe_call (pe_callS (ok__law_is_number T base) (hr.mono (by decide)) (by rfl) T.mg__law_is_number T.kp__law_is_number T.b__law_is_number (fun σ => passAt tk σ) (fa_cons (fo_val (fe_op2 (op2_ix _) (pe_ix ix_seq (fo_pk (pv 3)) (fo_val (fe_c pe_int (.int 0) (fun _ => rfl))) (fun _ _ => rfl)))) (fa_cons (fo_val (fe_c pe_int (.int 60) (fun _ => rfl))) (fa_nil)))) rfl)))))))) (fss_one (fs_ret (fe_var (pv 2)))) (fss_nil)) (fss_one (fs_if (PW.pt (fw_or (ft_not (ft_val (pt_val (fe_call (pe_callS (ok__law_is_thing T base) (hr.mono (by decide)) (by rfl) T.mg__law_is_thing T.kp__law_is_thing T.b__law_is_thing (fun σ => passAt tk σ) (fa_cons (fo_val (fe_op2 (op2_ix _) (pe_ix ix_seq (fo_pk (pv 3)) (fo_val (fe_c pe_int (.int 1) (fun _ => rfl))) (fun _ _ => rfl)))) (fa_nil))) rfl)))) (fw_or (PW.pt (fw_and (ft_op2 (op2_gt _) (pt_cmpR opr_gt (fo_pk (pv 2)) (fo_val (fe_c pe_int (.int 0) (fun _ => rfl))) (nomark _))) (fw_and1 (ft_op2 (op2_le _) (pt_cmpR opr_le (fo_val (fe_op2 (op2_ix _) (pe_ix ix_seq (fo_pk (pv 3)) (fo_val (fe_c pe_int (.int 0) (fun _ => rfl))) (fun _ _ => rfl)))) (fo_val (fe_op2 (op2_ix _) (pe_ix ix_seq (fo_val (fe_op2 (op2_ix _) (pe_ix ix_seq (fo_pk (pv 1)) (fo_val (fe_op2 (op2_sub _) (pe_op op_sub (fo_pk (pv 2)) (fo_val (fe_c pe_int (.int 1) (fun _ => rfl)))))) (fun _ _ => rfl)))) (fo_val (fe_c pe_int (.int 0) (fun _ => rfl))) (fun _ _ => rfl)))) (nomark _)))))) (fw_or1 (ft_op2 (op2_in _) (pt_cmpR (opr_in (units65 hr)) (fo_val (fe_op2 (op2_ix _) (pe_ix ix_seq (fo_pk (pv 3)) (fo_val (fe_c pe_int (.int 0) (fun _ => rfl))) (fun _ _ => rfl)))) (fo_pk (pv 0)) (by rfl))))))) (fss_one (fs_ret (fe_var (pv 2)))) (fss_nil))))))) (fss_one (fs_ret (fe_c pe_str (.str "let") (fun _ => rfl))))))
theorem sc_first_wrong : FnScope N_first_wrong ["lost", "turned"] (defScope s_first_wrong) := ⟨rfl, rfl, rfl, by decide +kernel, rfl, by decide +kernel, by decide +kernel⟩
theorem ok_first_wrong (T : Txt K mg a) (base : Heap) : FnOk P w K mg base (L2.CX P w) 4 a.a_first_wrong a.d_first_wrong ["lost", "turned"] (spF (gm K a) 2 sem_first_wrong) := by
  refine fn_ok T.f_first_wrong sc_first_wrong body_first_wrong 2 rfl 4 rfl fun cdv A outer sh H E hr => ?_
  have tk : Takes (cxOf (L2.CX P w) P w K mg base N_first_wrong "first_wrong" (defScope s_first_wrong) a.a_first_wrong cdv A outer sh H E) (fun cls d _ H => E cls d H) := takes_of rfl rfl rfl rfl
  exact fss_cons (fs_for (ps_for (passes_of rfl) rfl (fi_enum rfl (pi_enumA (by rfl) T.b_enumerate (fa_cons (fo_val (fe_var (pv 1))) (fa_nil)))) (fg_tup rfl (fgs_cons (fg_name (pg_name (i := 2) sc_first_wrong.nd rfl (Or.inl rfl))) (fgs_cons (fg_name (pg_name (i := 3) sc_first_wrong.nd rfl (Or.inl rfl))) (fgs_nil))) rfl) (fss_one (fs_if (PW.pt (fw_or (ft_not (ft_val (pt_val (fe_call (pe_callS (ok_is_turn T base) (hr.mono (by decide)) (by rfl) T.mg_is_turn T.kp_is_turn T.b_is_turn (fun σ => passAt tk σ) (fa_cons (fo_val (fe_var (pv 3))) (fa_nil))) rfl)))) (fw_or (ft_op2 (op2_in _) (pt_cmpR (opr_in (units65 hr)) (fo_val (fe_op2 (op2_ix _) (pe_ix ix_seq (fo_pk (pv 3)) (fo_val (fe_c pe_int (.int 0) (fun _ => rfl))) (fun _ _ => rfl)))) (fo_pk (pv 0)) (by rfl))) (fw_or1 (PW.pt (fw_and (ft_op2 (op2_gt _) (pt_cmpR opr_gt (fo_pk (pv 2)) (fo_val (fe_c pe_int (.int 0) (fun _ => rfl))) (nomark _))) (fw_and1 (ft_op2 (op2_le _) (pt_cmpR opr_le (fo_val (fe_op2 (op2_ix _) (pe_ix ix_seq (fo_pk (pv 3)) (fo_val (fe_c pe_int (.int 0) (fun _ => rfl))) (fun _ _ => rfl)))) (fo_val (fe_op2 (op2_ix _) (pe_ix ix_seq (fo_val (fe_op2 (op2_ix _) (pe_ix ix_seq (fo_pk (pv 1)) (fo_val (fe_op2 (op2_sub _) (pe_op op_sub (fo_pk (pv 2)) (fo_val (fe_c pe_int (.int 1) (fun _ => rfl)))))) (fun _ _ => rfl)))) (fo_val (fe_c pe_int (.int 0) (fun _ => rfl))) (fun _ _ => rfl)))) (nomark _)))))))))) (fss_one (fs_ret (fe_var (pv 2)))) (fss_nil))))) (fss_one (fs_ret (fe_c pe_non .non (fun _ => rfl))))
theorem sc__law_thing : FnScope N__law_thing ["hand", "deep"] (defScope s__law_thing) := ⟨rfl, rfl, rfl, by decide +kernel, rfl, by decide +kernel, by decide +kernel⟩
theorem okS__law_thing (T : Txt K mg a) (base : Heap) (m : Nat) (ih : FnOk P w K mg base (L2.CX P w) (4 + m) a.a__law_thing a.d__law_thing ["hand", "deep"] (spF (gm K a) 2 (sem__law_thing m))) : FnOk P w K mg base (L2.CX P w) (4 + m + 1) a.a__law_thing a.d__law_thing ["hand", "deep"] (spF (gm K a) 2 (sem__law_thing (m + 1))) := by
  refine fn_ok (k := 4 + m) T.f__law_thing sc__law_thing (body__law_thing (sem__law_thing m)) 2 rfl 4 rfl fun cdv A outer sh H E hr => ?_
  have tk : Takes (cxOf (L2.CX P w) P w K mg base N__law_thing "_law_thing" (defScope s__law_thing) a.a__law_thing cdv A outer sh H E) (fun cls d _ H => E cls d H) := takes_of rfl rfl rfl rfl
  exact fss_cons (fs_set (ps_set (i := 2) sc__law_thing.nd rfl (Or.inl rfl) (fe_call (pe_callS (ok__law_draw T base) (hr.mono (by omega)) (by rfl) T.mg__law_draw T.kp__law_draw T.b__law_draw (fun σ => passAt tk σ) (fa_cons (fo_pk (pv 0)) (fa_cons (fo_val (fe_if (ft_op2 (op2_gt _) (pt_cmpR opr_gt (fo_pk (pv 1)) (fo_val (fe_c pe_int (.int 0) (fun _ => rfl))) (nomark _))) (fe_c pe_int (.int 9) (fun _ => rfl)) (fe_c pe_int (.int 6) (fun _ => rfl)))) (fa_nil)))) rfl))) (fss_cons (fs_if (ft_op2 (op2_lt _) (pt_cmpR (opr_lt hr.units) (fo_pk (pv 2)) (fo_val (fe_c pe_int (.int 3) (fun _ => rfl))) (nomark _))) (fss_one (fs_ret (fe_call (pe_callS (ok__law_some T base) (hr.mono (by omega)) (by rfl) T.mg__law_some T.kp__law_some T.b__law_some (fun σ => passAt tk σ) (fa_cons (fo_pk (pv 0)) (fa_cons (fo_val (fe_fn (fn_lst (pe_lst (fa_cons (fo_val (fe_c pe_non .non (fun _ => rfl))) (fa_cons (fo_val (fe_c pe_bl (.bl true) (fun _ => rfl))) (fa_cons (fo_val (fe_c pe_bl (.bl false) (fun _ => rfl))) (fa_cons (fo_val (fe_c pe_int (.int 0) (fun _ => rfl))) (fa_cons (fo_val (fe_c pe_int (.int 1) (fun _ => rfl))) (fa_cons (fo_val (fe_neg (pe_un un_neg (fe_c pe_int (.int 1) (fun _ => rfl))))) (fa_cons (fo_val (fe_op2 (op2_sub _) (pe_op op_sub (fo_val (fe_op2 (op2_pow _) (pe_op op_pow (fo_val (fe_c pe_int (.int 10) (fun _ => rfl))) (fo_val (fe_c pe_int (.int 20) (fun _ => rfl)))))) (fo_val (fe_c pe_int (.int 1) (fun _ => rfl)))))) (fa_cons (fo_val (fe_op2 (op2_sub _) (pe_op op_sub (fo_val (fe_c pe_int (.int 1) (fun _ => rfl))) (fo_val (fe_op2 (op2_pow _) (pe_op op_pow (fo_val (fe_c pe_int (.int 10) (fun _ => rfl))) (fo_val (fe_c pe_int (.int 20) (fun _ => rfl))))))))) (fa_cons (fo_val (fe_c pe_str (.str "\n") (fun _ => rfl))) (fa_cons (fo_val (fe_c pe_str (.str "") (fun _ => rfl))) (fa_cons (fo_val (fe_tup (pe_tup (fa_nil)))) (fa_cons (fo_val (fe_tup (pe_tup (fa_cons (fo_val (fe_c pe_int (.int 0) (fun _ => rfl))) (fa_nil))))) (fa_cons (fo_val (fe_tup (pe_tup (fa_cons (fo_val (fe_c pe_bl (.bl false) (fun _ => rfl))) (fa_nil))))) (fa_nil)))))))))))))))))) (fa_nil)))) rfl))) (fss_nil)) (fss_cons (fs_if (ft_op2 (op2_lt _) (pt_cmpR (opr_lt hr.units) (fo_pk (pv 2)) (fo_val (fe_c pe_int (.int 6) (fun _ => rfl))) (nomark _))) (fss_one (fs_ret (fe_if (ft_op2 (op2_lt _) (pt_cmpR (opr_lt hr.units) (fo_pk (pv 2)) (fo_val (fe_c pe_int (.int 5) (fun _ => rfl))) (nomark _))) (fe_call (pe_callS (ok__law_word T base) (hr.mono (by omega)) (by rfl) T.mg__law_word T.kp__law_word T.b__law_word (fun σ => passAt tk σ) (fa_cons (fo_pk (pv 0)) (fa_nil))) rfl) (fe_op2 (op2_sub _) (pe_op op_sub (fo_val (fe_call (pe_callS (ok__law_draw T base) (hr.mono (by omega)) (by rfl) T.mg__law_draw T.kp__law_draw T.b__law_draw (fun σ => passAt tk σ) (fa_cons (fo_pk (pv 0)) (fa_cons (fo_val (fe_c pe_int (.int 1000) (fun _ => rfl))) (fa_nil)))) rfl)) (fo_val (fe_c pe_int (.int 500) (fun _ => rfl)))))))) (fss_nil)) (fss_one (fs_ret (fe_opL (opL_tuple _) (pe_callTy call_tuple_of (by rfl) T.b_tuple (by decide +kernel) (fa_cons (fo_val (fe_fn (fn_lc (pe_lc (own := [("turn", 3)]) rfl sc__law_thing.nd (fi_range1 (pi_range1 (by rfl) T.b_range (fa_cons (fo_val (fe_call (pe_callS (ok__law_draw T base) (hr.mono (by omega)) (by rfl) T.mg__law_draw T.kp__law_draw T.b__law_draw (fun σ => passAt tk σ) (fa_cons (fo_pk (pv 0)) (fa_cons (fo_val (fe_c pe_int (.int 4) (fun _ => rfl))) (fa_nil)))) rfl)) (fa_nil)))) (blkOk_by (N := N__law_thing) (sc := defScope s__law_thing) (by decide +kernel)) (fun _ _ _ _ _ => fgv_name (by decide) (pg_name (i := 3) sc__law_thing.nd rfl (Or.inl rfl))) (fun _ _ _ _ _ => fts_nil) (fun _ _ _ _ _ => fe_call (pe_callS ih (hr.mono (by omega)) (by rfl) T.mg__law_thing T.kp__law_thing T.b__law_thing (fun σ => passAt takes0 σ) (fa_cons (fo_pk (pv 0)) (fa_cons (fo_val (fe_op2 (op2_sub _) (pe_op op_sub (fo_pk (pv 1)) (fo_val (fe_c pe_int (.int 1) (fun _ => rfl)))))) (fa_nil)))) rfl))))) (fa_nil))))))))
theorem ok__law_thing (T : Txt K mg a) (base : Heap) : ∀ n, FnOk P w K mg base (L2.CX P w) (4 + n) a.a__law_thing a.d__law_thing ["hand", "deep"] (spF (gm K a) 2 (sem__law_thing n))
  | 0 => fn0_ok 2 rfl
  | m + 1 => okS__law_thing T base m (ok__law_thing T base m)
theorem sc_Faults___init__ : FnScope N_Faults___init__ ["self", "lost", "turned"] (defScope s_Faults___init__) := ⟨rfl, rfl, rfl, by decide +kernel, rfl, by decide +kernel, by decide +kernel⟩
theorem ok_Faults___init__ (T : Txt K mg a) (base : Heap) : FnOk P w K mg base (L2.CX P w) 5 a.a_Faults___init__ a.d_Faults___init__ ["self", "lost", "turned"] (spF (gm K a) 3 sem_Faults___init__) := by
  obtain ⟨u_MOST_LETTERS, m_MOST_LETTERS, r_MOST_LETTERS⟩ := T.k_MOST_LETTERS
  refine fn_ok T.f_Faults___init__ sc_Faults___init__ body_Faults___init__ 3 rfl 4 rfl fun cdv A outer sh H E hr => ?_
  have tk : Takes (cxOf (L2.CX P w) P w K mg base N_Faults___init__ "Faults.__init__" (defScope s_Faults___init__) a.a_Faults___init__ cdv A outer sh H E) (fun cls d _ H => E cls d H) := takes_of rfl rfl rfl rfl
  exact fss_cons (fs_if (ft_not (ft_val (pt_val (fe_call (pe_callS (ok_is_lot T base) (hr.mono (by decide)) (by rfl) T.mg_is_lot T.kp_is_lot T.b_is_lot (fun σ => passAt tk σ) (fa_cons (fo_val (fe_var (pv 1))) (fa_cons (fo_val (fe_c (pe_glob (v := .int 60) (by rfl) m_MOST_LETTERS r_MOST_LETTERS) (.int 60) (fun _ => rfl))) (fa_nil)))) rfl)))) (fss_one (fs_raise1 (c := 1) rfl tk T.oex_BadFaults T.ini_BadFaults T.tyf_BadFaults T.nof_BadFaults (ok_BadFaults___init__ T base) (hr.mono (by decide)) T.b_BadFaults___init__ (by rfl) T.mgx_BadFaults (fe_c pe_str (.str "lost") (fun _ => rfl)))) (fss_nil)) (fss_cons (fs_if (ft_not (ft_val (pt_val (fe_opL (opL_isi _ T.insTy T.unl) (pe_callB call_isi (by rfl) T.b_isinstance (by decide +kernel) (fa_cons (fo_pk (pv 2)) (fa_cons (fo_val (fe_c (pe_bltn (v := .ty "tuple") (u := .type "tuple") (by rfl) T.b_tuple (by decide +kernel) rfl) (.ty "tuple") (fun _ => rfl))) (fa_nil)))))))) (fss_one (fs_raise1 (c := 1) rfl tk T.oex_BadFaults T.ini_BadFaults T.tyf_BadFaults T.nof_BadFaults (ok_BadFaults___init__ T base) (hr.mono (by decide)) T.b_BadFaults___init__ (by rfl) T.mgx_BadFaults (fe_c pe_str (.str "turned") (fun _ => rfl)))) (fss_nil)) (fss_cons (fs_set (ps_set (i := 3) sc_Faults___init__.nd rfl (Or.inl rfl) (fe_call (pe_callS (ok_first_wrong T base) (hr.mono (by decide)) (by rfl) T.mg_first_wrong T.kp_first_wrong T.b_first_wrong (fun σ => passAt tk σ) (fa_cons (fo_val (fe_var (pv 1))) (fa_cons (fo_val (fe_var (pv 2))) (fa_nil)))) rfl))) (fss_cons (fs_if (ft_op2 (op2_notN _) (pt_cmpR op_notN (fo_pk (pv 3)) (fo_val (fe_c pe_non .non (fun _ => rfl))) (nomark _))) (fss_one (fs_raise1 (c := 1) rfl tk T.oex_BadFaults T.ini_BadFaults T.tyf_BadFaults T.nof_BadFaults (ok_BadFaults___init__ T base) (hr.mono (by decide)) T.b_BadFaults___init__ (by rfl) T.mgx_BadFaults (fe_var (pv 3)))) (fss_nil)) (fss_cons (fs_setFld rfl T.cl T.na_lost (ps_fld (fo_pk (pv 0)) (fe_var (pv 1)) rfl)) (fss_one (fs_setFld rfl T.cl T.na_turned (ps_fld (fo_pk (pv 0)) (fe_var (pv 2)) rfl)))))))
theorem sc__law_odd : FnScope N__law_odd ["hand"] (defScope s__law_odd) := ⟨rfl, rfl, rfl, by decide +kernel, rfl, by decide +kernel, by decide +kernel⟩
theorem ok__law_odd (T : Txt K mg a) (base : Heap) : FnOk P w K mg base (L2.CX P w) 7 a.a__law_odd a.d__law_odd ["hand"] (spF (gm K a) 1 sem__law_odd) := by
  refine fn_ok T.f__law_odd sc__law_odd body__law_odd 1 rfl 1 rfl fun cdv A outer sh H E hr => ?_
  have tk : Takes (cxOf (L2.CX P w) P w K mg base N__law_odd "_law_odd" (defScope s__law_odd) a.a__law_odd cdv A outer sh H E) (fun cls d _ H => E cls d H) := takes_of rfl rfl rfl rfl
  exact fss_one (fs_ret (fe_call (pe_callS (ok__law_some T base) (hr.mono (by decide)) (by rfl) T.mg__law_some T.kp__law_some T.b__law_some (fun σ => passAt tk σ) (fa_cons (fo_pk (pv 0)) (fa_cons (fo_val (fe_fn (fn_lst (pe_lst (fa_cons (fo_val (fe_c pe_non .non (fun _ => rfl))) (fa_cons (fo_val (fe_c pe_bl (.bl true) (fun _ => rfl))) (fa_cons (fo_val (fe_c pe_bl (.bl false) (fun _ => rfl))) (fa_cons (fo_val (fe_neg (pe_un un_neg (fe_c pe_int (.int 1) (fun _ => rfl))))) (fa_cons (fo_val (fe_c pe_int (.int 0) (fun _ => rfl))) (fa_cons (fo_val (fe_c pe_int (.int 59) (fun _ => rfl))) (fa_cons (fo_val (fe_c pe_int (.int 60) (fun _ => rfl))) (fa_cons (fo_val (fe_op2 (op2_pow _) (pe_op op_pow (fo_val (fe_c pe_int (.int 10) (fun _ => rfl))) (fo_val (fe_c pe_int (.int 19) (fun _ => rfl)))))) (fa_cons (fo_val (fe_c pe_str (.str "0") (fun _ => rfl))) (fa_cons (fo_val (fe_tup (pe_tup (fa_nil)))) (fa_cons (fo_val (fe_fn (fn_lst (pe_lst (fa_nil))))) (fa_cons (fo_val (fe_fn (fn_lst (pe_lst (fa_cons (fo_val (fe_c pe_int (.int 0) (fun _ => rfl))) (fa_nil)))))) (fa_cons (fo_val (fe_tup (pe_tup (fa_cons (fo_val (fe_c pe_int (.int 0) (fun _ => rfl))) (fa_nil))))) (fa_cons (fo_val (fe_tup (pe_tup (fa_cons (fo_val (fe_c pe_int (.int 0) (fun _ => rfl))) (fa_cons (fo_val (fe_c pe_int (.int 0) (fun _ => rfl))) (fa_nil)))))) (fa_cons (fo_val (fe_tup (pe_tup (fa_cons (fo_val (fe_c pe_int (.int 0) (fun _ => rfl))) (fa_cons (fo_val (fe_c pe_int (.int 0) (fun _ => rfl))) (fa_cons (fo_val (fe_c pe_int (.int 0) (fun _ => rfl))) (fa_nil))))))) (fa_cons (fo_val (fe_emp pe_dnewK)) (fa_cons (fo_val (fe_c pe_str (.str "ab") (fun _ => rfl))) (fa_cons (fo_val (fe_tup (pe_tup (fa_cons (fo_val (fe_c pe_int (.int 0) (fun _ => rfl))) (fa_cons (fo_val (fe_fn (fn_lst (pe_lst (fa_nil))))) (fa_nil)))))) (fa_cons (fo_val (fe_tup (pe_tup (fa_cons (fo_val (fe_c pe_int (.int 0) (fun _ => rfl))) (fa_cons (fo_val (fe_emp pe_dnewK)) (fa_nil)))))) (fa_cons (fo_val (fe_fn (fn_lst (pe_lst (fa_cons (fo_val (fe_c pe_int (.int 0) (fun _ => rfl))) (fa_cons (fo_val (fe_c pe_int (.int 0) (fun _ => rfl))) (fa_nil))))))) (fa_cons (fo_val (fe_tup (pe_tup (fa_cons (fo_val (fe_c pe_bl (.bl true) (fun _ => rfl))) (fa_cons (fo_val (fe_c pe_int (.int 0) (fun _ => rfl))) (fa_nil)))))) (fa_cons (fo_val (fe_tup (pe_tup (fa_cons (fo_val (fe_c pe_int (.int 60) (fun _ => rfl))) (fa_cons (fo_val (fe_c pe_int (.int 0) (fun _ => rfl))) (fa_nil)))))) (fa_cons (fo_val (fe_tup (pe_tup (fa_cons (fo_val (fe_neg (pe_un un_neg (fe_c pe_int (.int 1) (fun _ => rfl))))) (fa_cons (fo_val (fe_c pe_int (.int 0) (fun _ => rfl))) (fa_nil)))))) (fa_cons (fo_val (fe_call (pe_callS (ok__law_wrapped T base) (hr.mono (by decide)) (by rfl) T.mg__law_wrapped T.kp__law_wrapped T.b__law_wrapped (fun σ => passAt tk σ) (fa_cons (fo_val (fe_c pe_non .non (fun _ => rfl))) (fa_cons (fo_val (fe_c pe_int (.int 36) (fun _ => rfl))) (fa_cons (fo_val (fe_c pe_int (.int 0) (fun _ => rfl))) (fa_nil))))) rfl)) (fa_cons (fo_val (fe_call (pe_callS (ok__law_wrapped T base) (hr.mono (by decide)) (by rfl) T.mg__law_wrapped T.kp__law_wrapped T.b__law_wrapped (fun σ => passAt tk σ) (fa_cons (fo_val (fe_c pe_non .non (fun _ => rfl))) (fa_cons (fo_val (fe_c pe_int (.int 36) (fun _ => rfl))) (fa_cons (fo_val (fe_c pe_int (.int 1) (fun _ => rfl))) (fa_nil))))) rfl)) (fa_cons (fo_val (fe_tup (pe_tup (fa_cons (fo_val (fe_c pe_int (.int 59) (fun _ => rfl))) (fa_cons (fo_val (fe_call (pe_callS (ok__law_wrapped T base) (hr.mono (by decide)) (by rfl) T.mg__law_wrapped T.kp__law_wrapped T.b__law_wrapped (fun σ => passAt tk σ) (fa_cons (fo_val (fe_fn (fn_lst (pe_lst (fa_nil))))) (fa_cons (fo_val (fe_c pe_int (.int 34) (fun _ => rfl))) (fa_cons (fo_val (fe_c pe_int (.int 0) (fun _ => rfl))) (fa_nil))))) rfl)) (fa_nil)))))) (fa_cons (fo_val (fe_tup (pe_tup (fa_cons (fo_val (fe_c pe_int (.int 59) (fun _ => rfl))) (fa_cons (fo_val (fe_call (pe_callS (ok__law_wrapped T base) (hr.mono (by decide)) (by rfl) T.mg__law_wrapped T.kp__law_wrapped T.b__law_wrapped (fun σ => passAt tk σ) (fa_cons (fo_val (fe_c pe_int (.int 0) (fun _ => rfl))) (fa_cons (fo_val (fe_c pe_int (.int 34) (fun _ => rfl))) (fa_cons (fo_val (fe_c pe_int (.int 0) (fun _ => rfl))) (fa_nil))))) rfl)) (fa_nil)))))) (fa_cons (fo_val (fe_fn (fn_make (pe_makeS T.mk_Faults (ok_Faults___init__ T base) (hr.mono (by decide)) (by rfl) T.mg_Faults T.b_Faults___init__ (fun σ => passAt tk σ) (fa_cons (fo_val (fe_tup (pe_tup (fa_nil)))) (fa_cons (fo_val (fe_tup (pe_tup (fa_nil)))) (fa_nil)))) rfl))) (fa_cons (fo_val (fe_tup (pe_tup (fa_cons (fo_val (fe_c pe_int (.int 0) (fun _ => rfl))) (fa_cons (fo_val (fe_fn (fn_make (pe_makeS T.mk_Faults (ok_Faults___init__ T base) (hr.mono (by decide)) (by rfl) T.mg_Faults T.b_Faults___init__ (fun σ => passAt tk σ) (fa_cons (fo_val (fe_tup (pe_tup (fa_nil)))) (fa_cons (fo_val (fe_tup (pe_tup (fa_nil)))) (fa_nil)))) rfl))) (fa_nil)))))) (fa_cons (fo_val (fe_tup (pe_tup (fa_cons (fo_val (fe_c pe_int (.int 1) (fun _ => rfl))) (fa_cons (fo_val (fe_tup (pe_tup (fa_cons (fo_val (fe_c pe_str (.str "a") (fun _ => rfl))) (fa_cons (fo_val (fe_fn (fn_make (pe_makeS T.mk_Hearing (ok_Hearing___init__ T base) (hr.mono (by decide)) (by rfl) T.mg_Hearing T.b_Hearing___init__ (fun σ => passAt tk σ) (fa_cons (fo_val (fe_c (pe_glob (v := .ref a.a__law_ear) (by rfl) T.mg__law_ear rfl) (.raw 0) (fun _ => rfl))) (fa_nil))) rfl))) (fa_nil)))))) (fa_nil)))))) (fa_nil))))))))))))))))))))))))))))))))))) (fa_nil)))) rfl))
theorem sc__law_spoilt : FnScope N__law_spoilt ["hand", "rows", "other"] (defScope s__law_spoilt) := ⟨rfl, rfl, rfl, by decide +kernel, rfl, by decide +kernel, by decide +kernel⟩
theorem ok__law_spoilt (T : Txt K mg a) (base : Heap) : FnOk P w K mg base (L2.CX P w) 8 a.a__law_spoilt a.d__law_spoilt ["hand", "rows", "other"] (spF (gm K a) 3 sem__law_spoilt) := by
  refine fn_ok T.f__law_spoilt sc__law_spoilt body__law_spoilt 3 rfl 7 rfl fun cdv A outer sh H E hr => ?_
  have tk : Takes (cxOf (L2.CX P w) P w K mg base N__law_spoilt "_law_spoilt" (defScope s__law_spoilt) a.a__law_spoilt cdv A outer sh H E) (fun cls d _ H => E cls d H) := takes_of rfl rfl rfl rfl
  exact fss_cons (fs_parNE (ps_par (i := 3) (j := 4) rfl sc__law_spoilt.nd rfl rfl (by decide) rfl rfl (pa_cons (fn_opL (opN_list _) (pe_callTy call_list_of (by rfl) T.b_list (by decide +kernel) (fa_cons (fo_pk (pv 1)) (fa_nil)))) (pa_cons (fe_call (pe_callS (ok__law_draw T base) (hr.mono (by decide)) (by rfl) T.mg__law_draw T.kp__law_draw T.b__law_draw (fun σ => passAt tk σ) (fa_cons (fo_pk (pv 0)) (fa_cons (fo_val (fe_op2 (op2_add _) (pe_op opr_add (fo_val (fe_opL (opL_len _) (pe_callB callr_len (by rfl) T.b_len (by decide +kernel) (fa_cons (fo_pk (pv 1)) (fa_nil))))) (fo_val (fe_c pe_int (.int 1) (fun _ => rfl)))))) (fa_nil)))) rfl) pa_nil)) (by rfl))) (fss_cons (fs_set (ps_set (i := 5) sc__law_spoilt.nd rfl (Or.inl rfl) (fe_call (pe_callS (ok__law_draw T base) (hr.mono (by decide)) (by rfl) T.mg__law_draw T.kp__law_draw T.b__law_draw (fun σ => passAt tk σ) (fa_cons (fo_pk (pv 0)) (fa_cons (fo_val (fe_c pe_int (.int 5) (fun _ => rfl))) (fa_nil)))) rfl))) (fss_cons (fs_if (PW.pt (fw_or (ft_op2 (op2_eq _) (pt_cmpR (op_eqD hr.units) (fo_pk (pv 5)) (fo_val (fe_c pe_int (.int 0) (fun _ => rfl))) (nomark _))) (fw_or1 (ft_op2 (op2_eq _) (pt_cmpR (op_eqD hr.units) (fo_val (fe_opL (opL_len _) (pe_callB callr_len (by rfl) T.b_len (by decide +kernel) (fa_cons (fo_pk (pv 1)) (fa_nil))))) (fo_val (fe_c pe_int (.int 0) (fun _ => rfl))) (nomark _)))))) (fss_one (fs_expr (ps_expr (fe_mt mtok_insert (pe_bm PySem.F.plainAttrs_list PySem.F.slot_list_insert PySem.F.type_list_insert mt_insert (fo_pk (pv 3)) (fa_cons (fo_val (fe_var (pv 4))) (fa_cons (fo_val (fe_call (pe_callS (ok__law_odd T base) (hr.mono (by decide)) (by rfl) T.mg__law_odd T.kp__law_odd T.b__law_odd (fun σ => passAt tk σ) (fa_cons (fo_pk (pv 0)) (fa_nil))) rfl)) (fa_nil)))))))) (fss_one (fs_if (ft_op2 (op2_eq _) (pt_cmpR (op_eqD hr.units) (fo_pk (pv 5)) (fo_val (fe_c pe_int (.int 1) (fun _ => rfl))) (nomark _))) (fss_one (fs_expr (ps_expr (fe_mt mtok_insert (pe_bm PySem.F.plainAttrs_list PySem.F.slot_list_insert PySem.F.type_list_insert mt_insert (fo_pk (pv 3)) (fa_cons (fo_val (fe_var (pv 4))) (fa_cons (fo_val (fe_call (pe_callS (ok__law_some T base) (hr.mono (by decide)) (by rfl) T.mg__law_some T.kp__law_some T.b__law_some (fun σ => passAt tk σ) (fa_cons (fo_pk (pv 0)) (fa_cons (fo_val (fe_var (pv 1))) (fa_nil)))) rfl)) (fa_nil)))))))) (fss_one (fs_if (ft_op2 (op2_eq _) (pt_cmpR (op_eqD hr.units) (fo_pk (pv 5)) (fo_val (fe_c pe_int (.int 2) (fun _ => rfl))) (nomark _))) (fss_one (fs_expr (ps_expr (fe_mt mtok_insert (pe_bm PySem.F.plainAttrs_list PySem.F.slot_list_insert PySem.F.type_list_insert mt_insert (fo_pk (pv 3)) (fa_cons (fo_val (fe_var (pv 4))) (fa_cons (fo_val (fe_mt mtok_popAt (pe_bm PySem.F.plainAttrs_list PySem.F.slot_list_pop PySem.F.type_list_pop mt_popAt (fo_pk (pv 3)) (fa_cons (fo_val (fe_call (pe_callS (ok__law_draw T base) (hr.mono (by decide)) (by rfl) T.mg__law_draw T.kp__law_draw T.b__law_draw (fun σ => passAt tk σ) (fa_cons (fo_pk (pv 0)) (fa_cons (fo_val (fe_opL (opL_len _) (pe_callB callr_len (by rfl) T.b_len (by decide +kernel) (fa_cons (fo_pk (pv 3)) (fa_nil))))) (fa_nil)))) rfl)) (fa_nil))))) (fa_nil)))))))) (fss_one (fs_if (PW.pt (fw_and (ft_op2 (op2_eq _) (pt_cmpR (op_eqD hr.units) (fo_pk (pv 5)) (fo_val (fe_c pe_int (.int 3) (fun _ => rfl))) (nomark _))) (fw_and1 (ft_op2 (op2_gt _) (pt_cmpR opr_gt (fo_val (fe_opL (opL_len _) (pe_callB callr_len (by rfl) T.b_len (by decide +kernel) (fa_cons (fo_pk (pv 2)) (fa_nil))))) (fo_val (fe_c pe_int (.int 0) (fun _ => rfl))) (nomark _)))))) (fss_cons (fs_set (ps_set (i := 6) sc__law_spoilt.nd rfl (Or.inl rfl) (fe_call (pe_callS (ok__law_some T base) (hr.mono (by decide)) (by rfl) T.mg__law_some T.kp__law_some T.b__law_some (fun σ => passAt tk σ) (fa_cons (fo_pk (pv 0)) (fa_cons (fo_val (fe_var (pv 2))) (fa_nil)))) rfl))) (fss_one (fs_expr (ps_expr (fe_mt mtok_insert (pe_bm PySem.F.plainAttrs_list PySem.F.slot_list_insert PySem.F.type_list_insert mt_insert (fo_pk (pv 3)) (fa_cons (fo_val (fe_var (pv 4))) (fa_cons (fo_val (fe_if (PW.pt (fw_and (ft_val (pt_val (fe_opL (opL_isi _ T.insTy T.unl) (pe_callB call_isi (by rfl) T.b_isinstance (by decide +kernel) (fa_cons (fo_pk (pv 6)) (fa_cons (fo_val (fe_c (pe_bltn (v := .ty "tuple") (u := .type "tuple") (by rfl) T.b_tuple (by decide +kernel) rfl) (.ty "tuple") (fun _ => rfl))) (fa_nil))))))) (fw_and1 (ft_op2 (op2_gt _) (pt_cmpR opr_gt (fo_val (fe_opL (opL_len _) (pe_callB callr_len (by rfl) T.b_len (by decide +kernel) (fa_cons (fo_pk (pv 6)) (fa_nil))))) (fo_val (fe_c pe_int (.int 0) (fun _ => rfl))) (nomark _)))))) (fe_op2 (op2_ix _) (pe_ix ix_seq (fo_pk (pv 6)) (fo_val (fe_c pe_int (.int 0) (fun _ => rfl))) (fun _ _ => rfl))) (fe_tup (pe_tup (fa_cons (fo_val (fe_var (pv 6))) (fa_cons (fo_val (fe_c pe_non .non (fun _ => rfl))) (fa_nil))))))) (fa_nil))))))))) (fss_one (fs_setIx (ps_asg (fe_call (pe_callS (ok__law_odd T base) (hr.mono (by decide)) (by rfl) T.mg__law_odd T.kp__law_odd T.b__law_odd (fun σ => passAt tk σ) (fa_cons (fo_pk (pv 0)) (fa_nil))) rfl) (pg_sub (fo_pk (pv 3)) (fe_call (pe_callS (ok__law_draw T base) (hr.mono (by decide)) (by rfl) T.mg__law_draw T.kp__law_draw T.b__law_draw (fun σ => passAt tk σ) (fa_cons (fo_pk (pv 0)) (fa_cons (fo_val (fe_opL (opL_len _) (pe_callB callr_len (by rfl) T.b_len (by decide +kernel) (fa_cons (fo_pk (pv 3)) (fa_nil))))) (fa_nil)))) rfl) set_list))))))))))) (fss_one (fs_ret (fe_opL (opL_tuple _) (pe_callTy call_tuple_of (by rfl) T.b_tuple (by decide +kernel) (fa_cons (fo_pk (pv 3)) (fa_nil))))))))
theorem sc__law_made : FnScope N__law_made ["gone", "turns"] (defScope s__law_made) := ⟨rfl, rfl, rfl, by decide +kernel, rfl, by decide +kernel, by decide +kernel⟩
theorem ok__law_made (T : Txt K mg a) (base : Heap) : FnOk P w K mg base (L2.CX P w) 52 a.a__law_made a.d__law_made ["gone", "turns"] (spF (gm K a) 2 sem__law_made) := by
  refine fn_ok T.f__law_made sc__law_made body__law_made 2 rfl 4 rfl fun cdv A outer sh H E hr => ?_
  have tk : Takes (cxOf (L2.CX P w) P w K mg base N__law_made "_law_made" (defScope s__law_made) a.a__law_made cdv A outer sh H E) (fun cls d _ H => E cls d H) := takes_of rfl rfl rfl rfl
  exact fss_cons (fs_try1 (i := 3) (n := "e") rfl rfl sc__law_made.nd rfl rfl ⟨rfl, by decide, .inl T.mgx_BadFaults⟩ tk T.exm_BadFaults tame_ret (fun W' pn xe t po => fss_one (fs_set (ps_set (i := 2) sc__law_made.nd rfl (Or.inl rfl) (fe_fn (fn_make (pe_makeS T.mk_Faults (ok_Faults___init__ T base) (hr.mono (by decide)) (by rfl) T.mg_Faults T.b_Faults___init__ (fun σ => passAt t σ) (fa_cons (fo_val (fe_var (pv 0))) (fa_cons (fo_val (fe_var (pv 1))) (fa_nil)))) rfl))))) (fun a' oe cls d pn hz hf => ss_ret (sx_if (PW.pt (sw_and (sb_val (pt_val (sx_isi (cv := .ref a.c_TalkError) T.exT T.kit_TalkError (fun _ h => h) hz hf (pv 3) (pe_glob (v := .ref a.c_TalkError) (by rfl) T.mgx_TalkError rfl) (by rfl) T.b_isinstance (by decide +kernel)))) (pw_and1 (sb_val (pt_val (sx_isi (cv := .ty "ValueError") T.exT T.kit_ValueError (fun _ h => h) hz hf (pv 3) (pe_bltn (v := .ty "ValueError") (u := .type "ValueError") (by rfl) T.b_ValueError (by decide +kernel) rfl) (by rfl) T.b_isinstance (by decide +kernel))))))) (sx_fld (c0 := 1) T.xf_BadFaults T.nof_BadFaults hz hf (pv 3)) (sx_c pe_str (.str "other") (fun _ => rfl))))) (fss_one (fs_ret (fe_if (PW.pt (fw_and (ft_val (pt_val (fe_call (pe_callS (ok__law_is T base 50) (hr.mono (by decide)) (by rfl) T.mg__law_is T.kp__law_is T.b__law_is (fun σ => passAt tk σ) (fa_cons (fo_val (fe_fld rfl T.cl (T.na_lost) (pe_fld (fo_pk (pv 2)) rfl))) (fa_cons (fo_val (fe_var (pv 0))) (fa_nil)))) rfl))) (fw_and1 (ft_val (pt_val (fe_call (pe_callS (ok__law_is T base 50) (hr.mono (by decide)) (by rfl) T.mg__law_is T.kp__law_is T.b__law_is (fun σ => passAt tk σ) (fa_cons (fo_val (fe_fld rfl T.cl (T.na_turned) (pe_fld (fo_pk (pv 2)) rfl))) (fa_cons (fo_val (fe_var (pv 1))) (fa_nil)))) rfl)))))) (fe_c pe_str (.str "let") (fun _ => rfl)) (fe_c pe_str (.str "kept") (fun _ => rfl)))))
theorem sc__law_hears : FnScope N__law_hears ["faults", "gone", "turns", "thing"] (defScope s__law_hears) := ⟨rfl, rfl, rfl, by decide +kernel, rfl, by decide +kernel, by decide +kernel⟩
theorem ok__law_hears (T : Txt K mg a) (base : Heap) : FnOk P w K mg base (L2.CX P w) 52 a.a__law_hears a.d__law_hears ["faults", "gone", "turns", "thing"] (spF (gm K a) 4 sem__law_hears) := by
  refine fn_ok T.f__law_hears sc__law_hears body__law_hears 4 rfl 7 rfl fun cdv A outer sh H E hr => ?_
  have tk : Takes (cxOf (L2.CX P w) P w K mg base N__law_hears "_law_hears" (defScope s__law_hears) a.a__law_hears cdv A outer sh H E) (fun cls d _ H => E cls d H) := takes_of rfl rfl rfl rfl
  exact fss_cons (fs_for (ps_for (passes_of rfl) rfl (fi_range1 (pi_range1 (by rfl) T.b_range (fa_cons (fo_val (fe_c pe_int (.int 60) (fun _ => rfl))) (fa_nil)))) (fg_name (pg_name (i := 4) sc__law_hears.nd rfl (Or.inl rfl))) (fss_cons (fs_set (ps_set (i := 5) sc__law_hears.nd rfl (Or.inl rfl) (fe_if (ft_op2 (op2_in _) (pt_cmpR (opr_in (units65 hr)) (fo_pk (pv 4)) (fo_pk (pv 1)) (by rfl))) (fe_tup (pe_tup (fa_nil))) (fe_tup (pe_tup (fa_cons (fo_val (fe_var (pv 3))) (fa_nil))))))) (fss_cons (fs_for (ps_for (passes_of rfl) rfl (fi_any rfl (pi_any (fe_var (pv 2)))) (fg_name (pg_name (i := 6) sc__law_hears.nd rfl (Or.inl rfl))) (fss_one (fs_set (ps_set (i := 5) sc__law_hears.nd rfl (Or.inl rfl) (fe_if (ft_op2 (op2_eq _) (pt_cmpR (op_eqD hr.units) (fo_val (fe_op2 (op2_ix _) (pe_ix ix_seq (fo_pk (pv 6)) (fo_val (fe_c pe_int (.int 0) (fun _ => rfl))) (fun _ _ => rfl)))) (fo_pk (pv 4)) (nomark _))) (fe_tup (pe_tup (fa_cons (fo_val (fe_op2 (op2_ix _) (pe_ix ix_seq (fo_pk (pv 6)) (fo_val (fe_c pe_int (.int 1) (fun _ => rfl))) (fun _ _ => rfl)))) (fa_nil)))) (fe_var (pv 5)))))))) (fss_one (fs_if (ft_not (ft_val (pt_val (fe_call (pe_callS (ok__law_is T base 50) (hr.mono (by decide)) (by rfl) T.mg__law_is T.kp__law_is T.b__law_is (fun σ => passAt tk σ) (fa_cons (fo_val (fe_meth 0 (by decide) (by rfl) (pe_some (fun c hc => match c, hc with | 0, _ => pe_methE (fo_pk (pv 0)) (T.cl 0) T.me_Faults_ear (ok_Faults_ear T base) (hr.mono (by decide)) T.b_Faults_ear (fun σ => passAt tk σ) (fa_cons (fo_val (fe_var (pv 4))) (fa_cons (fo_val (fe_var (pv 3))) (fa_nil))) | 1, _ => pe_methE (fo_pk (pv 0)) (T.cl 1) T.me_Hearing_ear (ok_Hearing_ear T base) (hr.mono (by decide)) T.b_Hearing_ear (fun σ => passAt tk σ) (fa_cons (fo_val (fe_var (pv 4))) (fa_cons (fo_val (fe_var (pv 3))) (fa_nil))) | _ + 2, h => absurd h (by simp))))) (fa_cons (fo_val (fe_var (pv 5))) (fa_nil)))) rfl)))) (fss_one (fs_ret (fe_c pe_bl (.bl false) (fun _ => rfl)))) (fss_nil))))))) (fss_one (fs_ret (fe_c pe_bl (.bl true) (fun _ => rfl))))
theorem sc_law : FnScope N_law ["script"] (defScope s_law) := ⟨rfl, rfl, rfl, by decide +kernel, rfl, by decide +kernel, by decide +kernel⟩
theorem ok_law (T : Txt K mg a) (base : Heap) : FnOk P w K mg base (L2.CX P w) 53 a.a_law a.d_law ["script"] (spF (gm K a) 1 sem_law) := by
  refine fn_ok T.f_law sc_law body_law 1 rfl 16 rfl fun cdv A outer sh H E hr => ?_
  have tk : Takes (cxOf (L2.CX P w) P w K mg base N_law "law" (defScope s_law) a.a_law cdv A outer sh H E) (fun cls d _ H => E cls d H) := takes_of rfl rfl rfl rfl
  exact fss_cons (fs_setN (ps_set (i := 1) sc_law.nd rfl (Or.inr rfl) (fn_call (pe_callS (ok__law_hand T base) (hr.mono (by decide)) (by rfl) T.mg__law_hand T.kp__law_hand T.b__law_hand (fun σ => passAt tk σ) (fa_cons (fo_val (fe_var (pv 0))) (fa_nil))) rfl))) (fss_cons (fs_set (ps_set (i := 2) sc_law.nd rfl (Or.inr rfl) (fe_call (pe_callS (ok__law_some T base) (hr.mono (by decide)) (by rfl) T.mg__law_some T.kp__law_some T.b__law_some (fun σ => passAt tk σ) (fa_cons (fo_pk (pv 1)) (fa_cons (fo_val (fe_fn (fn_lst (pe_lst (fa_cons (fo_val (fe_c pe_int (.int 2) (fun _ => rfl))) (fa_cons (fo_val (fe_c pe_int (.int 3) (fun _ => rfl))) (fa_cons (fo_val (fe_c pe_int (.int 12) (fun _ => rfl))) (fa_cons (fo_val (fe_c pe_int (.int 60) (fun _ => rfl))) (fa_nil))))))))) (fa_nil)))) rfl))) (fss_cons (fs_set (ps_set (i := 3) sc_law.nd rfl (Or.inr rfl) (fe_fn (fn_lc (pe_lc (own := [("letter", 6)]) rfl sc_law.nd (fi_range1 (pi_range1 (by rfl) T.b_range (fa_cons (fo_val (fe_c pe_int (.int 60) (fun _ => rfl))) (fa_nil)))) (blkOk_by (N := N_law) (sc := defScope s_law) (by decide +kernel)) (fun _ _ _ _ _ => fgv_name (by decide) (pg_name (i := 6) sc_law.nd rfl (Or.inl rfl))) (fun _ _ _ _ _ => fts_nil) (fun _ _ _ _ _ => fe_call (pe_callS (ok__law_draw T base) (hr.mono (by decide)) (by rfl) T.mg__law_draw T.kp__law_draw T.b__law_draw (fun σ => passAt takes0 σ) (fa_cons (fo_pk (pv 1)) (fa_cons (fo_val (fe_var (pv 2))) (fa_nil)))) rfl)))))) (fss_cons (fs_set (ps_set (i := 4) sc_law.nd rfl (Or.inl rfl) (fe_opL (opL_tuple _) (pe_callTy call_tuple_of (by rfl) T.b_tuple (by decide +kernel) (fa_cons (fo_val (fe_fn (fn_lc (pe_lc (own := [("letter", 6)]) rfl sc_law.nd (fi_range1 (pi_range1 (by rfl) T.b_range (fa_cons (fo_val (fe_c pe_int (.int 60) (fun _ => rfl))) (fa_nil)))) (blkOk_by (N := N_law) (sc := defScope s_law) (by decide +kernel)) (fun _ _ _ _ _ => fgv_name (by decide) (pg_name (i := 6) sc_law.nd rfl (Or.inl rfl))) (fun _ _ _ _ _ => fts_one (ft_op2 (op2_eq _) (pt_cmpR (op_eqD hr.units) (fo_val (fe_op2 (op2_ix _) (pe_ix ix_seq (fo_pk (pv 3)) (fo_pk (pv 6)) (fun _ _ => rfl)))) (fo_val (fe_c pe_int (.int 0) (fun _ => rfl))) (nomark _)))) (fun _ _ _ _ _ => fe_var (pv 6)))))) (fa_nil)))))) (fss_cons (fs_setN (ps_set (i := 5) sc_law.nd rfl (Or.inl rfl) (fn_lst (pe_lst (fa_nil))))) (fss_cons (fs_for (ps_for (passes_of rfl) rfl (fi_range1 (pi_range1 (by rfl) T.b_range (fa_cons (fo_val (fe_c pe_int (.int 60) (fun _ => rfl))) (fa_nil)))) (fg_name (pg_name (i := 6) sc_law.nd rfl (Or.inl rfl))) (fss_one (fs_if (ft_op2 (op2_eq _) (pt_cmpR (op_eqD hr.units) (fo_val (fe_op2 (op2_ix _) (pe_ix ix_seq (fo_pk (pv 3)) (fo_pk (pv 6)) (fun _ _ => rfl)))) (fo_val (fe_c pe_int (.int 1) (fun _ => rfl))) (nomark _))) (fss_one (fs_expr (ps_expr (fe_mt mtok_append (pe_bm PySem.F.plainAttrs_list PySem.F.slot_list_append PySem.F.type_list_append mt_append (fo_pk (pv 5)) (fa_cons (fo_val (fe_tup (pe_tup (fa_cons (fo_val (fe_var (pv 6))) (fa_cons (fo_val (fe_call (pe_callS (ok__law_wrapped T base) (hr.mono (by decide)) (by rfl) T.mg__law_wrapped T.kp__law_wrapped T.b__law_wrapped (fun σ => passAt tk σ) (fa_cons (fo_val (fe_call (pe_callS (ok__law_thing T base 4) (hr.mono (by decide)) (by rfl) T.mg__law_thing T.kp__law_thing T.b__law_thing (fun σ => passAt tk σ) (fa_cons (fo_pk (pv 1)) (fa_cons (fo_val (fe_c pe_int (.int 2) (fun _ => rfl))) (fa_nil)))) rfl)) (fa_cons (fo_val (fe_call (pe_callS (ok__law_some T base) (hr.mono (by decide)) (by rfl) T.mg__law_some T.kp__law_some T.b__law_some (fun σ => passAt tk σ) (fa_cons (fo_pk (pv 1)) (fa_cons (fo_val (fe_fn (fn_lst (pe_lst (fa_cons (fo_val (fe_c pe_int (.int 0) (fun _ => rfl))) (fa_cons (fo_val (fe_c pe_int (.int 0) (fun _ => rfl))) (fa_cons (fo_val (fe_c pe_int (.int 0) (fun _ => rfl))) (fa_cons (fo_val (fe_c pe_int (.int 30) (fun _ => rfl))) (fa_nil))))))))) (fa_nil)))) rfl)) (fa_cons (fo_val (fe_c pe_int (.int 0) (fun _ => rfl))) (fa_nil))))) rfl)) (fa_nil)))))) (fa_nil))))))) (fss_nil))))) (fss_cons (fs_set (ps_set (i := 5) sc_law.nd rfl (Or.inl rfl) (fe_opL (opL_tuple _) (pe_callTy call_tuple_of (by rfl) T.b_tuple (by decide +kernel) (fa_cons (fo_pk (pv 5)) (fa_nil)))))) (fss_cons (fs_if (ft_op2 (op2_ne _) (pt_cmpR (op_neD hr.units) (fo_val (fe_call (pe_callS (ok__law_made T base) (hr.mono (by decide)) (by rfl) T.mg__law_made T.kp__law_made T.b__law_made (fun σ => passAt tk σ) (fa_cons (fo_val (fe_var (pv 4))) (fa_cons (fo_val (fe_var (pv 5))) (fa_nil)))) rfl)) (fo_val (fe_c pe_str (.str "let") (fun _ => rfl))) (nomark _))) (fss_one (fs_ret (fe_c pe_bl (.bl false) (fun _ => rfl)))) (fss_nil)) (fss_cons (fs_par (ps_par (i := 7) (j := 8) rfl sc_law.nd rfl rfl (by decide) rfl rfl (pa_cons (fe_fn (fn_make (pe_makeS T.mk_Faults (ok_Faults___init__ T base) (hr.mono (by decide)) (by rfl) T.mg_Faults T.b_Faults___init__ (fun σ => passAt tk σ) (fa_cons (fo_val (fe_var (pv 4))) (fa_cons (fo_val (fe_var (pv 5))) (fa_nil)))) rfl)) (pa_cons (fe_call (pe_callS (ok__law_thing T base 4) (hr.mono (by decide)) (by rfl) T.mg__law_thing T.kp__law_thing T.b__law_thing (fun σ => passAt tk σ) (fa_cons (fo_pk (pv 1)) (fa_cons (fo_val (fe_c pe_int (.int 2) (fun _ => rfl))) (fa_nil)))) rfl) pa_nil)) (by rfl))) (fss_cons (fs_for (ps_for (passes_of rfl) rfl (fi_any rfl (pi_any (fe_tup (pe_tup (fa_cons (fo_val (fe_var (pv 8))) (fa_cons (fo_val (fe_call (pe_callS (ok__law_twin T base 50) (hr.mono (by decide)) (by rfl) T.mg__law_twin T.kp__law_twin T.b__law_twin (fun σ => passAt tk σ) (fa_cons (fo_val (fe_var (pv 8))) (fa_nil))) rfl)) (fa_cons (fo_val (fe_var (pv 8))) (fa_nil)))))))) (fg_name (pg_name (i := 9) sc_law.nd rfl (Or.inl rfl))) (fss_one (fs_if (ft_not (ft_val (pt_val (fe_call (pe_callS (ok__law_hears T base) (hr.mono (by decide)) (by rfl) T.mg__law_hears T.kp__law_hears T.b__law_hears (fun σ => passAt tk σ) (fa_cons (fo_val (fe_var (pv 7))) (fa_cons (fo_val (fe_var (pv 4))) (fa_cons (fo_val (fe_var (pv 5))) (fa_cons (fo_val (fe_var (pv 9))) (fa_nil)))))) rfl)))) (fss_one (fs_ret (fe_c pe_bl (.bl false) (fun _ => rfl)))) (fss_nil))))) (fss_cons (fs_if (PW.pt (fw_or (ft_not (ft_eqI T.insTy T.apt (pt_cmpR (op_eqI (ok_Faults___eq__ T base) T.eq_Faults T.eqf_Faults T.b_Faults___eq__ (hr.mono (by decide))) (fo_pk (pv 7)) (fo_val (fe_fn (fn_make (pe_makeS T.mk_Faults (ok_Faults___init__ T base) (hr.mono (by decide)) (by rfl) T.mg_Faults T.b_Faults___init__ (fun σ => passAt tk σ) (fa_cons (fo_val (fe_var (pv 4))) (fa_cons (fo_val (fe_opL (opL_tuple _) (pe_callTy call_tuple_of (by rfl) T.b_tuple (by decide +kernel) (fa_cons (fo_val (fe_fn (fn_lc (pe_lc (own := [("one", 9), ("other", 15)]) rfl sc_law.nd (fi_any rfl (pi_any (fe_var (pv 5)))) (blkOk_by (N := N_law) (sc := defScope s_law) (by decide +kernel)) (fun _ _ _ _ _ => fgv_tup rfl (fgvs_cons (fgv_name (by decide) (pg_name (i := 9) sc_law.nd rfl (Or.inl rfl))) (fgvs_cons (fgv_name (by decide) (pg_name (i := 15) sc_law.nd rfl (Or.inl rfl))) (fgvs_nil))) rfl) (fun _ _ _ _ _ => fts_nil) (fun _ _ _ _ _ => fe_tup (pe_tup (fa_cons (fo_val (fe_var (pv 9))) (fa_cons (fo_val (fe_call (pe_callS (ok__law_twin T base 50) (hr.mono (by decide)) (by rfl) T.mg__law_twin T.kp__law_twin T.b__law_twin (fun σ => passAt takes0 σ) (fa_cons (fo_val (fe_var (pv 15))) (fa_nil))) rfl)) (fa_nil))))))))) (fa_nil))))) (fa_nil)))) rfl))) (nomark _)))) (fw_or1 (ft_eqI T.insTy T.apt (pt_cmpR (op_eqI (ok_Faults___eq__ T base) T.eq_Faults T.eqf_Faults T.b_Faults___eq__ (hr.mono (by decide))) (fo_pk (pv 7)) (fo_val (fe_tup (pe_tup (fa_cons (fo_val (fe_var (pv 4))) (fa_cons (fo_val (fe_var (pv 5))) (fa_nil)))))) (nomark _)))))) (fss_one (fs_ret (fe_c pe_bl (.bl false) (fun _ => rfl)))) (fss_nil)) (fss_cons (fs_if (PW.pt (fw_or (PW.pt (fw_and (ft_op2 (op2_gt _) (pt_cmpR opr_gt (fo_val (fe_opL (opL_len _) (pe_callB callr_len (by rfl) T.b_len (by decide +kernel) (fa_cons (fo_pk (pv 5)) (fa_nil))))) (fo_val (fe_c pe_int (.int 0) (fun _ => rfl))) (nomark _))) (fw_and1 (ft_eqI T.insTy T.apt (pt_cmpR (op_eqI (ok_Faults___eq__ T base) T.eq_Faults T.eqf_Faults T.b_Faults___eq__ (hr.mono (by decide))) (fo_pk (pv 7)) (fo_val (fe_fn (fn_make (pe_makeS T.mk_Faults (ok_Faults___init__ T base) (hr.mono (by decide)) (by rfl) T.mg_Faults T.b_Faults___init__ (fun σ => passAt tk σ) (fa_cons (fo_val (fe_var (pv 4))) (fa_cons (fo_val (fe_sl rfl (pe_slice slr_all (fo_pk (pv 5)) (fp_some (fe_c pe_int (.int 1) (fun _ => rfl))) (fp_none)))) (fa_nil)))) rfl))) (nomark _)))))) (fw_or1 (PW.pt (fw_and (ft_op2 (op2_gt _) (pt_cmpR opr_gt (fo_val (fe_opL (opL_len _) (pe_callB callr_len (by rfl) T.b_len (by decide +kernel) (fa_cons (fo_pk (pv 4)) (fa_nil))))) (fo_val (fe_c pe_int (.int 0) (fun _ => rfl))) (nomark _))) (fw_and1 (ft_eqI T.insTy T.apt (pt_cmpR (op_eqI (ok_Faults___eq__ T base) T.eq_Faults T.eqf_Faults T.b_Faults___eq__ (hr.mono (by decide))) (fo_pk (pv 7)) (fo_val (fe_fn (fn_make (pe_makeS T.mk_Faults (ok_Faults___init__ T base) (hr.mono (by decide)) (by rfl) T.mg_Faults T.b_Faults___init__ (fun σ => passAt tk σ) (fa_cons (fo_val (fe_sl rfl (pe_slice slr_all (fo_pk (pv 4)) (fp_none) (fp_some (fe_neg (pe_un un_neg (fe_c pe_int (.int 1) (fun _ => rfl)))))))) (fa_cons (fo_val (fe_var (pv 5))) (fa_nil)))) rfl))) (nomark _))))))))) (fss_one (fs_ret (fe_c pe_bl (.bl false) (fun _ => rfl)))) (fss_nil)) (fss_cons (fs_for (ps_for (passes_of rfl) rfl (fi_range1 (pi_range1 (by rfl) T.b_range (fa_cons (fo_val (fe_c pe_int (.int 4) (fun _ => rfl))) (fa_nil)))) (fg_name (pg_name (i := 10) sc_law.nd rfl (Or.inl rfl))) (fss_cons (fs_par (ps_par (i := 12) (j := 13) rfl sc_law.nd rfl rfl (by decide) rfl rfl (pa_cons (fe_var (pv 4)) (pa_cons (fe_var (pv 5)) pa_nil)) (by rfl))) (fss_cons (fs_set (ps_set (i := 14) sc_law.nd rfl (Or.inl rfl) (fe_call (pe_callS (ok__law_draw T base) (hr.mono (by decide)) (by rfl) T.mg__law_draw T.kp__law_draw T.b__law_draw (fun σ => passAt tk σ) (fa_cons (fo_pk (pv 1)) (fa_cons (fo_val (fe_c pe_int (.int 5) (fun _ => rfl))) (fa_nil)))) rfl))) (fss_cons (fs_if (ft_op2 (op2_lt _) (pt_cmpR (opr_lt hr.units) (fo_pk (pv 14)) (fo_val (fe_c pe_int (.int 2) (fun _ => rfl))) (nomark _))) (fss_one (fs_set (ps_set (i := 12) sc_law.nd rfl (Or.inl rfl) (fe_call (pe_callS (ok__law_spoilt T base) (hr.mono (by decide)) (by rfl) T.mg__law_spoilt T.kp__law_spoilt T.b__law_spoilt (fun σ => passAt tk σ) (fa_cons (fo_pk (pv 1)) (fa_cons (fo_val (fe_var (pv 4))) (fa_cons (fo_val (fe_var (pv 5))) (fa_nil))))) rfl)))) (fss_nil)) (fss_cons (fs_if (ft_op2 (op2_gt _) (pt_cmpR opr_gt (fo_pk (pv 14)) (fo_val (fe_c pe_int (.int 0) (fun _ => rfl))) (nomark _))) (fss_one (fs_set (ps_set (i := 13) sc_law.nd rfl (Or.inl rfl) (fe_call (pe_callS (ok__law_spoilt T base) (hr.mono (by decide)) (by rfl) T.mg__law_spoilt T.kp__law_spoilt T.b__law_spoilt (fun σ => passAt tk σ) (fa_cons (fo_pk (pv 1)) (fa_cons (fo_val (fe_var (pv 13))) (fa_cons (fo_val (fe_var (pv 4))) (fa_nil))))) rfl)))) (fss_nil)) (fss_cons (fs_if (ft_op2 (op2_eq _) (pt_cmpR (op_eqD hr.units) (fo_pk (pv 14)) (fo_val (fe_c pe_int (.int 4) (fun _ => rfl))) (nomark _))) (fss_one (fs_set (ps_set (i := 13) sc_law.nd rfl (Or.inl rfl) (fe_call (pe_callS (ok__law_spoilt T base) (hr.mono (by decide)) (by rfl) T.mg__law_spoilt T.kp__law_spoilt T.b__law_spoilt (fun σ => passAt tk σ) (fa_cons (fo_pk (pv 1)) (fa_cons (fo_val (fe_var (pv 13))) (fa_cons (fo_val (fe_var (pv 4))) (fa_nil))))) rfl)))) (fss_nil)) (fss_cons (fs_if (ft_op2 (op2_eq _) (pt_cmpR (op_eqD hr.units) (fo_val (fe_call (pe_callS (ok__law_draw T base) (hr.mono (by decide)) (by rfl) T.mg__law_draw T.kp__law_draw T.b__law_draw (fun σ => passAt tk σ) (fa_cons (fo_pk (pv 1)) (fa_cons (fo_val (fe_c pe_int (.int 9) (fun _ => rfl))) (fa_nil)))) rfl)) (fo_val (fe_c pe_int (.int 0) (fun _ => rfl))) (nomark _))) (fss_one (fs_set (ps_set (i := 12) sc_law.nd rfl (Or.inl rfl) (fe_call (pe_callS (ok__law_some T base) (hr.mono (by decide)) (by rfl) T.mg__law_some T.kp__law_some T.b__law_some (fun σ => passAt tk σ) (fa_cons (fo_pk (pv 1)) (fa_cons (fo_val (fe_fn (fn_lst (pe_lst (fa_cons (fo_val (fe_fn (fn_opL (opN_list _) (pe_callTy call_list_of (by rfl) T.b_list (by decide +kernel) (fa_cons (fo_pk (pv 4)) (fa_nil)))))) (fa_cons (fo_val (fe_c pe_non .non (fun _ => rfl))) (fa_cons (fo_val (fe_c pe_int (.int 0) (fun _ => rfl))) (fa_cons (fo_val (fe_c pe_str (.str "") (fun _ => rfl))) (fa_cons (fo_val (fe_emp pe_dnewK)) (fa_cons (fo_val (fe_call (pe_callS (ok__law_odd T base) (hr.mono (by decide)) (by rfl) T.mg__law_odd T.kp__law_odd T.b__law_odd (fun σ => passAt tk σ) (fa_cons (fo_pk (pv 1)) (fa_nil))) rfl)) (fa_nil))))))))))) (fa_nil)))) rfl)))) (fss_nil)) (fss_cons (fs_if (ft_op2 (op2_eq _) (pt_cmpR (op_eqD hr.units) (fo_val (fe_call (pe_callS (ok__law_draw T base) (hr.mono (by decide)) (by rfl) T.mg__law_draw T.kp__law_draw T.b__law_draw (fun σ => passAt tk σ) (fa_cons (fo_pk (pv 1)) (fa_cons (fo_val (fe_c pe_int (.int 9) (fun _ => rfl))) (fa_nil)))) rfl)) (fo_val (fe_c pe_int (.int 0) (fun _ => rfl))) (nomark _))) (fss_one (fs_set (ps_set (i := 13) sc_law.nd rfl (Or.inl rfl) (fe_call (pe_callS (ok__law_some T base) (hr.mono (by decide)) (by rfl) T.mg__law_some T.kp__law_some T.b__law_some (fun σ => passAt tk σ) (fa_cons (fo_pk (pv 1)) (fa_cons (fo_val (fe_fn (fn_lst (pe_lst (fa_cons (fo_val (fe_fn (fn_opL (opN_list _) (pe_callTy call_list_of (by rfl) T.b_list (by decide +kernel) (fa_cons (fo_pk (pv 5)) (fa_nil)))))) (fa_cons (fo_val (fe_c pe_non .non (fun _ => rfl))) (fa_cons (fo_val (fe_c pe_int (.int 0) (fun _ => rfl))) (fa_cons (fo_val (fe_c pe_str (.str "") (fun _ => rfl))) (fa_cons (fo_val (fe_emp pe_dnewK)) (fa_cons (fo_val (fe_call (pe_callS (ok__law_odd T base) (hr.mono (by decide)) (by rfl) T.mg__law_odd T.kp__law_odd T.b__law_odd (fun σ => passAt tk σ) (fa_cons (fo_pk (pv 1)) (fa_nil))) rfl)) (fa_nil))))))))))) (fa_nil)))) rfl)))) (fss_nil)) (fss_one (fs_if (ft_not (ft_val (pt_val (fe_call (pe_callS (ok__law_is T base 50) (hr.mono (by decide)) (by rfl) T.mg__law_is T.kp__law_is T.b__law_is (fun σ => passAt tk σ) (fa_cons (fo_val (fe_call (pe_callS (ok__law_made T base) (hr.mono (by decide)) (by rfl) T.mg__law_made T.kp__law_made T.b__law_made (fun σ => passAt tk σ) (fa_cons (fo_val (fe_var (pv 12))) (fa_cons (fo_val (fe_var (pv 13))) (fa_nil)))) rfl)) (fa_cons (fo_val (fe_call (pe_callS (ok__law_part T base) (hr.mono (by decide)) (by rfl) T.mg__law_part T.kp__law_part T.b__law_part (fun σ => passAt tk σ) (fa_cons (fo_val (fe_var (pv 12))) (fa_cons (fo_val (fe_var (pv 13))) (fa_nil)))) rfl)) (fa_nil)))) rfl)))) (fss_one (fs_ret (fe_c pe_bl (.bl false) (fun _ => rfl)))) (fss_nil)))))))))))) (fss_cons (fs_par (ps_par (i := 11) (j := 6) rfl sc_law.nd rfl rfl (by decide) rfl rfl (pa_cons (fe_fn (fn_make (pe_makeS T.mk_Hearing (ok_Hearing___init__ T base) (hr.mono (by decide)) (by rfl) T.mg_Hearing T.b_Hearing___init__ (fun σ => passAt tk σ) (fa_cons (fo_val (fe_c (pe_glob (v := .ref a.a__law_ear) (by rfl) T.mg__law_ear rfl) (.raw 0) (fun _ => rfl))) (fa_nil))) rfl)) (pa_cons (fe_call (pe_callS (ok__law_draw T base) (hr.mono (by decide)) (by rfl) T.mg__law_draw T.kp__law_draw T.b__law_draw (fun σ => passAt tk σ) (fa_cons (fo_pk (pv 1)) (fa_cons (fo_val (fe_c pe_int (.int 60) (fun _ => rfl))) (fa_nil)))) rfl) pa_nil)) (by rfl))) (fss_one (fs_ret (fe_and (pe_and (fe_call (pe_callS (ok__law_is T base 50) (hr.mono (by decide)) (by rfl) T.mg__law_is T.kp__law_is T.b__law_is (fun σ => passAt tk σ) (fa_cons (fo_val (fe_meth 0 (by decide) (by rfl) (pe_some (fun c hc => match c, hc with | 0, _ => pe_methE (fo_pk (pv 11)) (T.cl 0) T.me_Faults_ear (ok_Faults_ear T base) (hr.mono (by decide)) T.b_Faults_ear (fun σ => passAt tk σ) (fa_cons (fo_val (fe_var (pv 6))) (fa_cons (fo_val (fe_var (pv 8))) (fa_nil))) | 1, _ => pe_methE (fo_pk (pv 11)) (T.cl 1) T.me_Hearing_ear (ok_Hearing_ear T base) (hr.mono (by decide)) T.b_Hearing_ear (fun σ => passAt tk σ) (fa_cons (fo_val (fe_var (pv 6))) (fa_cons (fo_val (fe_var (pv 8))) (fa_nil))) | _ + 2, h => absurd h (by simp))))) (fa_cons (fo_val (fe_call (pe_callS (ok__law_ear T base) (hr.mono (by decide)) (by rfl) T.mg__law_ear T.kp__law_ear T.b__law_ear (fun σ => passAt tk σ) (fa_cons (fo_val (fe_var (pv 6))) (fa_cons (fo_val (fe_var (pv 8))) (fa_nil)))) rfl)) (fa_nil)))) rfl) (pe_one (fe_not (pe_not (fe_eqI T.insTy T.apt (pe_cmpR (op_eqI (ok_Faults___eq__ T base) T.eq_Faults T.eqf_Faults T.b_Faults___eq__ (hr.mono (by decide))) (fo_pk (pv 7)) (fo_pk (pv 11)) (nomark _)))))))))))))))))))))))
end
end Law

namespace Law
open PySem PySem.Spec PyProof.Rows L2 FL
open Lean in
local macro_rules | `(tactic| walk_at $s:str) => do
  let ws := s.getString.splitOn " "
  match ws with
  | "run" :: r =>
    let xs : Array (TSyntax `Lean.Parser.Tactic.simpLemma) ← (r.filter (· != "")).toArray.mapM fun n => do
      let i : TSyntax `term := mkIdent n.toName
      `(Lean.Parser.Tactic.simpLemma| $i:term)
    `(tactic| simp only [x_val, x_bad, x_exc, x_Rsome, x_Rnone, x_ite, x_fPk, x_fVar, pkV_fz, pkV_own, pkV_bor, vrV_fz, vrV_own, get_v, get_pk, slC_fz, slC_own, slC_bor, x_fC, x_fV, x_fOp2, r2_ss, x_fAs0, x_fAs1, x_arGets0, x_arGets1, cons2_s, x_valsOf0, x_valsOf1, rL_s, x_fOpL, x_fOpV, x_fAnd, x_fOr, andK_t, andK_f, orK_t, orK_f, x_tAnd, x_tOr, x_tNot, x_tYes, tandK_t, tandK_f, torK_t, torK_f, x_fIf, ifK_t, ifK_f, x_fTest, asB_bl, x_fNot, x_fChain, chK_t, chK_f, x_fNx, x_fBrk, x_fCnt, x_fBad, x_seq, seqK_nx, seqK_rt, seqK_rn, seqK_bk, seqK_ct, loopK_nx, loopK_ct, loopK_bk, loopK_rt, loopK_rn, nxK_nx, lpK_nx, lpK_ct, lpK_bk, lpK_rt, lpK_rn, tsK_t, tsK_f, endK_nx, endK_rt, endM_rn, bakK_s, bk_nil', bk_fz', bk_bor', bCons_s, x_fDrop, x_fRet, x_fRetN, x_fRet0, x_fSet, x_fSetN, x_fPar, x_fParNE, x_fParEN, x_fAsg, x_asgK, someK_s, x_bName, x_bTup, x_bAll0, x_bAll1, x_obind, x_fFor, x_fLc, x_fCall, x_fCallN, calK_s, calM_s, retK_s, x_backK, runC_val, runN_new, lend0, lend_v1, lend_pk1, sCons2_s, lendS1_fz, lendS1_own, lendS1_bor, unl_pk, unl_pkno, unl_v, unl_nil, putO_fz, putO_own, putO_bor, x_fFld, rFld_s, x_fSl, rSl_s, x_pNone, x_pSome, asI_int, x_iAny, x_iRng, x_iZip, x_iEnum, x_fSetIx, rIx_own, rIx_bor, x_fMt, mtK_s, rMt_own, rMt_bor, x_fIsiT, x_fSetFld', rSF_bor, rSF_own, x_fMake, mkK_s, mkK2_s, x_fEqI, eqK_ins, eqR, eqK_tup, eqK_lst, eqK_non, eqK_int, eqK_str, eqK_bl, List.take_succ_cons, List.take_zero, cut_nat, cut_hi, cut_lo, cut_lohi, Int.zero_add, Int.cast_ofNat_Int, Int.natCast_zero, Int.natCast_one,
      List.length_cons, List.length_nil, List.cons_append, List.nil_append, List.replicate_succ, List.replicate_zero, List.getElem?_cons_zero, List.getElem?_cons_succ, List.set_cons_zero, List.set_cons_succ, Nat.reduceAdd, Nat.reduceSub, Nat.reduceMul, Nat.zero_add, Int.reduceAdd, Int.reduceSub, Int.reduceMul, Int.reduceNeg, Int.reducePow, Int.reduceLT, Int.reduceLE, Int.reduceEq, Int.reduceToNat, Nat.reducePow, Nat.reduceLT, Nat.reduceLeDiff,
      once_0, once_v, once_pk, pkIs_v, pkIs_pk, Nat.reduceBEq, sh_0, sh_fz', sh_bor', List.any_nil, List.any_cons, Bool.not_false, Bool.not_true, Bool.and_self, Bool.or_false, Bool.false_or, Bool.true_and, Bool.and_true, Bool.true_or, Bool.or_true, true_and, and_true, Bool.or_self, Bool.false_and, Bool.and_false, Bool.not_not,
      oAdd, oSub, oMul, oDiv, oMod, oLt, oLe, oGt, oGe, B64_def, x_ixL, x_ixT, x_slT, x_slL, x_slS, x_itT, x_itL, x_itS, x_itZT, x_itZL, x_itET, x_itEL, x_app, lD0, lD1, lD2, oD_n, oD_s, x_bTup3,  oLen, oInt, oEq_int, oNe_int, oEq_bl, oNe_bl, oIsN, oNotN, FL.isNon, Option.map_some, Option.map_none, atI_0, atI_1, atI_2, atI_3, atI_4, ixN_0, ixN_1, ixN_2, ixN_3, ixN_4, oTupD, oLstD, oTuple, oMin2, oMax2, oAbs, wipeE, restoreE, keepF, decide_true, decide_false, tIsi, tyName, tgs_int, tgs_bool, tgs_tuple, tgs_list, tgs_str, tgs_dict, st_own_bool, st_own_int, st_own_str, st_own_tuple, st_own_list, st_own_dict, st_NoneType_bool, st_NoneType_int, st_NoneType_str, st_NoneType_tuple, st_NoneType_list, st_NoneType_dict, st_bool_bool, st_bool_int, st_bool_str, st_bool_tuple, st_bool_list, st_bool_dict, st_int_bool, st_int_int, st_int_str, st_int_tuple, st_int_list, st_int_dict, st_str_bool, st_str_int, st_str_str, st_str_tuple, st_str_list, st_str_dict, st_tuple_bool, st_tuple_int, st_tuple_str, st_tuple_tuple, st_tuple_list, st_tuple_dict, st_list_bool, st_list_int, st_list_str, st_list_tuple, st_list_list, st_list_dict, st_dict_bool, st_dict_int, st_dict_str, st_dict_tuple, st_dict_list, st_dict_dict, rTL, tIsc, isc_ins, isc_non, isc_bl, isc_int, isc_str, isc_tup, isc_lst, isc_emp, ek_ins, ek_non, ek_bl, ek_int, ek_str, ek_tup, ek_lst, s_seq, seqS_nx, seqS_rt, seqS_rn, seqS_bk, seqS_ct, s_val, s_nx, ifS_t, ifS_f, xx_set, xx_setN, xx_ret, xx_drop, calX_s, exK_exc, s_try, x_try, excK_t, s_hRet, s_hSet, optK_s, bakX_s, xC, xFld, xIs, xAnd, xB, xAndB, xIf, x_fEmp, x_fPar3, x_fPar3N, x_fTupR, rTupR_s, x_fNeg, rNeg_s, x_ins, x_ext, x_fLc2, yesK_t, eq_self, wlK_nx, wlK_ct, wlK_bk, wlK_rt, wlK_rn, whK_t, whK_f, x_fJoin, strK_s, x_extT, rT3, rT2, oIsB, isBlD, x_fMeth, mthK_s, x_fFldC, fldK_s, List.contains_cons, List.contains_nil, Option.isNone_none, Option.isNone_some, reduceIte, reduceCtorEq, and_self, or_true, true_or, $xs,*])
  | "tgt" :: _ => `(tactic| simp only [x_bName, x_bTup, x_bTup3, x_bAll0, x_bAll1, x_obind, someK_s, Int.zero_add, List.set_cons_succ, List.set_cons_zero])
  | "spl" :: _ => `(tactic| ((with_reducible (first | refine tandK_if ?_ ?_ | refine torK_if ?_ ?_ | refine ifK_if ?_ ?_ | refine andK_if ?_ ?_ | refine orK_if ?_ ?_ | refine chK_if ?_ ?_ | refine tsK_if ?_ ?_ | refine ifS_if ?_ ?_ | refine whK_if ?_ ?_)) <;> (intro hyp; (try simp only [Bool.and_eq_true, Bool.or_eq_true, Bool.and_eq_false_iff, Bool.or_eq_false_iff, beq_iff_eq, decide_eq_true_eq, decide_eq_false_iff_not, beq_eq_false_iff_ne, Bool.not_eq_true', Bool.not_eq_false', Bool.not_eq_true, Bool.not_eq_false, ne_eq, not_true_eq_false, not_false_eq_true, Bool.true_eq_false, Bool.false_eq_true] at hyp); try (exfalso; omega))))
  | "side" :: _ => `(tactic| (with_reducible refine And.intro (by first | omega | assumption | exact sl16 (by omega) | (refine And.intro ?_ ?_ <;> omega)) ?_))
  | "gos" :: _ => do
    let q := Syntax.mkStrLit ("run" ++ (s.getString.drop 3).toString)
    `(tactic| repeat' (first | walk_at $q:str | walk_at "spl" | walk_at "side" | walk_at "sx" | (with_reducible refine s_run ?_)))
  | "gox" :: _ => do
    let q := Syntax.mkStrLit ("run" ++ (s.getString.drop 3).toString)
    `(tactic| repeat' (first | walk_at $q:str | walk_at "spl" | walk_at "side" | walk_at "sx" | (with_reducible refine s_exc ?_)))
  | "sx" :: _ => `(tactic| (with_reducible first | refine s_if ?_ | refine s_raise ?_ | refine xx_call ?_ | refine xx_callN ?_ | refine xx_make ?_))
  | "go" :: _ => do
    let q := Syntax.mkStrLit ("run" ++ (s.getString.drop 2).toString)
    `(tactic| repeat' (first | walk_at $q:str | walk_at "spl" | walk_at "side"))
  | _ => Lean.Macro.throwUnsupported
theorem p18 : oPow (.int 10) (.int 18) = some (.int 1000000000000000000) := by rfl
theorem p19 : oPow (.int 10) (.int 19) = some (.int 10000000000000000000) := by rfl
theorem p20 : oPow (.int 10) (.int 20) = some (.int 100000000000000000000) := by rfl
/-! ## things -/
mutual
def nd : D → Nat
  | .tup ds => ndL ds + 1
  | .lst ds => ndL ds + 1
  | _ => 1
def ndL : List D → Nat
  | [] => 0
  | d :: ds => nd d + ndL ds
end
theorem nd_pos : ∀ d : D, 1 ≤ nd d := fun d => by cases d <;> simp [nd]
theorem ndL_app : ∀ a b : List D, ndL (a ++ b) = ndL a + ndL b
  | [], b => by simp [ndL]
  | d :: a, b => by rw [List.cons_append, ndL, ndL, ndL_app a b]; omega
theorem ndL_len : ∀ ds : List D, ds.length ≤ ndL ds
  | [] => Nat.le_refl _
  | d :: ds => by rw [ndL, List.length_cons]; have := nd_pos d; have := ndL_len ds; omega
theorem ndL_mem : ∀ {ds : List D} {d : D}, d ∈ ds → nd d ≤ ndL ds
  | x :: ds, d, h => by
    rw [ndL]
    rcases List.mem_cons.mp h with rfl | h
    · omega
    · have := ndL_mem h; omega
inductive Pl : Nat → D → Prop
  | non {n} : Pl n .non
  | bl {n} (b : Bool) : Pl n (.bl b)
  | int {n} (i : Int) : Pl n (.int i)
  | str {n} (s : Str) (h : PyData.strOk s = true) : Pl n (.str s)
  | emp {n} : Pl n .emp
  | ins {n} (c : Nat) (ns : List Str) (ds : List D) : Pl n (.ins c ns ds)
  | tup {n} (ds : List D) (h : ∀ d, d ∈ ds → Pl n d) : Pl (n + 1) (.tup ds)
  | lst {n} (ds : List D) (h : ∀ d, d ∈ ds → Pl n d) : Pl (n + 1) (.lst ds)
theorem Pl.up {n m : Nat} {d : D} (h : Pl n d) (hm : n ≤ m) : Pl m d := by
  induction h generalizing m with
  | non => exact .non
  | bl b => exact .bl b
  | int i => exact .int i
  | str s h => exact .str s h
  | emp => exact .emp
  | ins c ns ds => exact .ins c ns ds
  | tup ds h ih => obtain ⟨k, rfl⟩ : ∃ k, m = k + 1 := ⟨m - 1, by omega⟩; exact .tup ds fun d hd => ih d hd (by omega)
  | lst ds h ih => obtain ⟨k, rfl⟩ : ∃ k, m = k + 1 := ⟨m - 1, by omega⟩; exact .lst ds fun d hd => ih d hd (by omega)
def isI : D → Bool
  | .int _ => true
  | _ => false
def btw (d : D) (lo hi : Int) : Bool := match d with
  | .int x => decide (lo ≤ x) && decide (x ≤ hi)
  | _ => false
def szd (d : D) (lo hi : Int) : Bool := match d with
  | .tup ds => decide (lo ≤ ds.length) && decide ((ds.length : Int) ≤ hi)
  | _ => false
theorem btw_int {x lo hi : Int} : btw (.int x) lo hi = (decide (lo ≤ x) && decide (x ≤ hi)) := rfl
theorem e_is_integer {n : Nat} {d : D} (p : Pl n d) : sem_is_integer [.fz d] = .val (.bl (isI d)) [.no] := by
  refine fn_eq ?_
  cases p <;> walk_at "go body_is_integer" <;> simp [isI]
theorem e_is_between {n : Nat} {d : D} (p : Pl n d) (lo hi : Int) : sem_is_between [.fz d, .fz (.int lo), .fz (.int hi)] = .val (.bl (btw d lo hi)) [.no, .no, .no] := by
  have ei := e_is_integer p
  refine fn_eq ?_
  cases p <;> (unfold isI at ei; walk_at "go body_is_between ei btw") <;> simp [*]
theorem e_is_sized {n : Nat} {d : D} (p : Pl n d) (hb : nd d ≤ 100000) (lo hi : Int) : sem_is_sized [.fz d, .fz (.int lo), .fz (.int hi)] = .val (.bl (szd d lo hi)) [.no, .no, .no] := by
  refine fn_eq ?_
  cases p with
  | tup ds h =>
    rw [nd] at hb
    have hx : ds.length ≤ sizeLine := sl16 (by have := ndL_len ds; omega)
    walk_at "go body_is_sized hx szd" <;> simp [*]
  | _ => walk_at "go body_is_sized szd"
theorem e_lnum {n : Nat} {d : D} (p : Pl n d) (m : Int) : sem__law_is_number [.fz d, .fz (.int m)] = .val (.bl (btw d 0 (m - 1))) [.no, .no] := by
  refine fn_eq ?_
  cases p with
  | int i =>
    have : decide (i < m) = decide (i ≤ m - 1) := decide_eq_decide.mpr (by omega)
    walk_at "go body__law_is_number btw this" <;> simp [*]
  | _ => walk_at "go body__law_is_number btw"
def leafB : D → Bool
  | .non => true
  | .bl _ => true
  | .int _ => true
  | .str _ => true
  | _ => false
theorem e_is_leaf {n : Nat} {d : D} (p : Pl n d) : sem_is_leaf [.fz d] = .val (.bl (leafB d)) [.no] := by
  refine fn_eq ?_
  cases p <;> walk_at "go body_is_leaf rT3" <;> simp [leafB]
mutual
def thB : D → Bool
  | .non => true
  | .bl _ => true
  | .int _ => true
  | .str _ => true
  | .tup ds => thL ds
  | _ => false
def thL : List D → Bool
  | [] => true
  | d :: ds => thB d && thL ds
end
theorem thL_app : ∀ a b : List D, thL (a ++ b) = (thL a && thL b)
  | [], b => by simp [thL]
  | d :: a, b => by rw [List.cons_append, thL, thL, thL_app a b, Bool.and_assoc]
theorem thL_mem : ∀ {ds : List D}, thL ds = true ↔ ∀ d, d ∈ ds → thB d = true
  | [] => by simp [thL]
  | d :: ds => by rw [thL, Bool.and_eq_true, thL_mem]; simp
theorem snoc_cases {α : Type} (xs : List α) : xs = [] ∨ ∃ a x, xs = a ++ [x] := by
  rcases List.eq_nil_or_concat xs with h | ⟨a, x, h⟩
  · exact .inl h
  · exact .inr ⟨a, x, by rw [h]; simp⟩
theorem e_is_thing {n : Nat} {d : D} (p : Pl n d) (hb : nd d ≤ 100000) : sem_is_thing [.fz d] = .val (.bl (thB d)) [.no] := by
  refine fn_eq ?_
  have l1 : (1 : Nat) ≤ sizeLine := sl16 (by omega)
  walk_at "go body_is_thing l1"
  refine while_run (fun k E => ∃ st s2, E = [.fz d, .own (.lst st), s2] ∧ ndL st = k ∧ k ≤ 100000 ∧ thB d = thL st ∧ ∀ x, x ∈ st → Pl n x) (nd d) (by omega) ?_ ?_
  · exact ⟨[d], _, rfl, by simp [ndL], hb, by simp [thL], by simpa using p⟩
  · rintro k E ⟨st, s2, rfl, rfl, hk, ht, hp⟩
    have hlen := ndL_len st
    have hs : st.length ≤ sizeLine := sl16 (by omega)
    rcases snoc_cases st with rfl | ⟨a, x, rfl⟩
    · walk_at "go hs"
      rw [ht]; rfl
    · have px : Pl n x := hp x (by simp)
      have pa : ∀ y, y ∈ a → Pl n y := fun y hy => hp y (by simp [hy])
      have ex := e_is_leaf px
      rw [thL_app, thL, thL, Bool.and_true] at ht
      have na : ndL (a ++ [x]) = ndL a + nd x := by rw [ndL_app, ndL, ndL]; omega
      have nx := nd_pos x
      have ll : ((a ++ [x]).length : Int) = a.length + 1 := by simp
      have fin : leafB x = true → thB x = true := fun h => by cases x <;> first | rfl | cases h
      have bad : leafB x = false → (∀ ds, x ≠ .tup ds) → thB x = false := fun h h2 => by
        cases x with
        | tup ds => exact absurd rfl (h2 ds)
        | _ => first | rfl | cases h
      walk_at "go hs ll x_pop"
      cases px with
      | tup ds h =>
        rw [nd] at na
        have hd := ndL_len ds
        have hal := ndL_len a
        have nn := ndL_app a ds
        have h2 : a.length + ds.length ≤ sizeLine := sl16 (by omega)
        walk_at "go x_extT h2"
        refine ⟨_, by omega, a ++ ds, _, rfl, rfl, by rw [ndL_app]; omega, by rw [ht, thL_app]; rfl, fun y hy => ?_⟩
        rcases List.mem_append.mp hy with hy | hy
        · exact pa y hy
        · exact (h y hy).up (by omega)
      | _ =>
        unfold leafB at ex
        walk_at "go ex"
        first
          | exact ⟨_, by omega, a, _, rfl, rfl, by omega, by rw [ht]; simp [thB], pa⟩
          | (rw [ht]; simp [thB])
/-! ## draws -/
def HandD (d : D) : Prop := ∃ (cells : List Int) (i : Nat) (b s c : Int), cells.length ≤ 63 ∧ d = .lst [.lst (cells.map .int), .int i, .int b, .int s, .int c]
theorem draw_ok {h : D} {k : Nat} {m : Int} (hh : HandD h) (h0 : 0 < m) (h1 : m < 1073741824) : wpF (sem__law_draw [.bor k h, .fz (.int m)]) (fun d bs => ∃ r h', d = .int r ∧ bs = [.bor k h', .no] ∧ HandD h' ∧ 0 ≤ r ∧ r < m) := by
  obtain ⟨cells, i, b, s, c, hc, rfl⟩ := hh
  have hs : cells.length ≤ sizeLine := sl16 (by omega)
  have m0 : ∀ x : Int, 0 ≤ x % m := fun x => Int.emod_nonneg x (by omega)
  have m1 : ∀ x : Int, x % m < m := fun x => Int.emod_lt_of_pos x h0
  have fin : ∀ (x : Int) (j : Nat) (b s c : Int), ∃ r h', D.int (x % m) = .int r ∧ [Sl.bor k (D.lst [D.lst (List.map D.int cells), D.int j, D.int b, D.int s, D.int c]), Sl.no] = [.bor k h', .no] ∧ HandD h' ∧ 0 ≤ r ∧ r < m :=
    fun x j b s c => ⟨_, _, rfl, rfl, ⟨cells, j, b, s, c, hc, rfl⟩, m0 x, m1 x⟩
  refine fn_run ?_
  walk_at "go body__law_draw p18 List.length_map hs"
  all_goals first | exact fin _ _ _ _ _ | skip
  rename_i hb hi
  obtain ⟨x, hx⟩ : ∃ x, cells[i]? = some x := ⟨_, List.getElem?_eq_getElem (by omega)⟩
  have gx : atI (cells.map D.int) (i : Int) = some (.int x) := by rw [atI_nat', List.getElem?_map, hx]; rfl
  walk_at "go gx p18 List.length_map hs"
  all_goals first | exact fin _ (i + 1) _ _ _ | skip
theorem some_ok {h : D} {k : Nat} {xs : List D} (hh : HandD h) (h0 : 0 < xs.length) (h1 : xs.length ≤ 1000000) : wpF (sem__law_some [.bor k h, .fz (.lst xs)]) (fun d bs => ∃ h', d ∈ xs ∧ bs = [.bor k h', .no] ∧ HandD h') := by
  have hs : xs.length ≤ sizeLine := sl16 h1
  refine fn_run ?_
  walk_at "go body__law_some hs"
  refine call_by (draw_ok hh (by omega) (by omega)) ?_
  rintro d bs ⟨r, h', rfl, rfl, hh', r0, r1⟩
  obtain ⟨x, hx⟩ : ∃ x, xs[r.toNat]? = some x := ⟨_, List.getElem?_eq_getElem (by omega)⟩
  have gx : atI xs r = some x := atI_get r0 hx
  walk_at "go gx"
  exact ⟨h', List.mem_of_getElem? hx, rfl, hh'⟩
theorem hand_ok {ns : List Int} (h : ns.length ≤ 63) : wpN (sem__law_hand [.fz (.scr ns)]) (fun d bs => HandD d ∧ bs = [.no]) := by
  have hs : ns.length ≤ sizeLine := sl16 (by omega)
  have ht : List.take 63 ns = ns := List.take_of_length_le h
  have l5 : (5 : Nat) ≤ sizeLine := sl16 (by omega)
  have hm : (List.map (fun i : Int => D.int (if i < 0 then -i else i)) ns).length ≤ sizeLine := by rw [List.length_map]; exact hs
  refine fn_runN ?_
  walk_at "go body__law_hand take_map' ht"
  refine lc_fun (k := D.int) hs (fun i => .int (if i < 0 then -i else i)) (fun x _ => ?_) ?_
  · walk_at "go"
  · walk_at "go take_map' ht hm l5"
    exact ⟨ns.map fun i : Int => if i < 0 then -i else i, 0, 0, _, 0, by simpa using h, by simp [List.map_map]; rfl⟩

/-! ## lots -/
theorem snoc_get {xs : List D} {pre r : List D} {x : D} (e : xs = pre ++ x :: r) : atI xs (pre.length : Int) = some x := by
  rw [atI_nat', e, List.getElem?_append_right (by simp)]; simp
abbrev Up (xs : List Int) : Prop := xs.Pairwise (· < ·)
def gtO : Option Int → Int → Bool
  | none, _ => true
  | some p, x => decide (p < x)
def lotF : Option Int → List D → Bool
  | _, [] => true
  | o, d :: ds => match d with
    | .int x => decide (0 ≤ x) && (decide (x ≤ 59) && (gtO o x && lotF (some x) ds))
    | _ => false
def lotB : D → Bool
  | .tup ds => lotF none ds
  | _ => false
def lotI : D → List Int
  | .tup ds => ds.filterMap fun d => match d with
    | .int x => some x
    | _ => none
  | _ => []
theorem lotI_map (xs : List Int) : lotI (.tup (xs.map .int)) = xs := by
  unfold lotI
  induction xs with
  | nil => rfl
  | cons x xs ih =>
    show x :: _ = _
    exact congrArg _ ih
theorem lotF_int {o : Option Int} {x : Int} {ds : List D} : lotF o (.int x :: ds) = (decide (0 ≤ x) && (decide (x ≤ 59) && (gtO o x && lotF (some x) ds))) := by rw [lotF]
theorem lotF_no {o : Option Int} {d : D} {ds : List D} (h : ∀ x, d ≠ .int x) : lotF o (d :: ds) = false := by
  cases d <;> first | rfl | exact absurd rfl (h _)
structure LotOk (xs : List Int) : Prop where
  up : Up xs
  bd : ∀ x, x ∈ xs → 0 ≤ x ∧ x ≤ 59
theorem btw_ex {d : D} {lo hi : Int} (h : btw d lo hi = true) : ∃ x, d = .int x ∧ lo ≤ x ∧ x ≤ hi := by
  unfold btw at h
  split at h
  · simp at h; exact ⟨_, rfl, h.1, h.2⟩
  · cases h
theorem lotF_ex : ∀ {ds : List D} {o : Option Int}, lotF o ds = true → ∃ xs : List Int, ds = xs.map .int ∧ LotOk xs ∧ ∀ x, x ∈ xs → gtO o x = true
  | [], o, _ => ⟨[], rfl, ⟨List.Pairwise.nil, by simp⟩, by simp⟩
  | d :: ds, o, h => by
    cases d with
    | int x =>
      rw [lotF_int] at h
      simp only [Bool.and_eq_true, decide_eq_true_eq] at h
      obtain ⟨h0, h1, h2, h3⟩ := h
      obtain ⟨xs, rfl, ok, hg⟩ := lotF_ex h3
      refine ⟨x :: xs, rfl, ⟨List.pairwise_cons.mpr ⟨fun y hy => of_decide_eq_true (hg y hy), ok.up⟩, fun y hy => ?_⟩, fun y hy => ?_⟩
      · rcases List.mem_cons.mp hy with rfl | hy
        · exact ⟨h0, h1⟩
        · exact ok.bd y hy
      · rcases List.mem_cons.mp hy with rfl | hy
        · exact h2
        · have := of_decide_eq_true (hg y hy)
          cases o with
          | none => rfl
          | some p => have h2 := of_decide_eq_true h2; exact decide_eq_true (by omega)
    | _ => cases h
theorem lotF_of : ∀ {xs : List Int} {o : Option Int}, LotOk xs → (∀ x, x ∈ xs → gtO o x = true) → lotF o (xs.map .int) = true
  | [], _, _, _ => rfl
  | x :: xs, o, h, hg => by
    have h2 := List.pairwise_cons.mp h.up
    have hb := h.bd x (by simp)
    rw [List.map_cons, lotF_int]
    simp only [Bool.and_eq_true, decide_eq_true_eq]
    exact ⟨hb.1, hb.2, hg x (by simp), lotF_of ⟨h2.2, fun y hy => h.bd y (by simp [hy])⟩ fun y hy => decide_eq_true (h2.1 y hy)⟩
theorem lotF_zip : ∀ (xs : List Int), (∀ x, x ∈ xs → 0 ≤ x ∧ x ≤ 59) → lotF none (xs.map .int) = (xs.zip (xs.drop 1)).all (fun p => decide (p.1 < p.2)) := by
  have key : ∀ (xs : List Int) (p : Int), (∀ x, x ∈ xs → 0 ≤ x ∧ x ≤ 59) → lotF (some p) (xs.map .int) = ((p :: xs).zip xs).all (fun p => decide (p.1 < p.2)) := by
    intro xs
    induction xs with
    | nil => intro p _; rfl
    | cons x xs ih =>
      intro p h
      have hb := h x (by simp)
      rw [List.map_cons, lotF_int, List.zip_cons_cons, List.all_cons, ← ih x fun y hy => h y (by simp [hy])]
      simp [hb.1, hb.2, gtO]
  intro xs h
  cases xs with
  | nil => rfl
  | cons x xs =>
    have hb := h x (by simp)
    rw [List.map_cons, lotF_int, List.drop_succ_cons, List.drop_zero, ← key xs x fun y hy => h y (by simp [hy])]
    simp [hb.1, hb.2, gtO]
theorem all_btw : ∀ {ds : List D}, (ds.all fun d => btw d 0 59) = true → ∃ xs : List Int, ds = xs.map .int ∧ ∀ x, x ∈ xs → 0 ≤ x ∧ x ≤ 59
  | [], _ => ⟨[], rfl, by simp⟩
  | d :: ds, h => by
    rw [List.all_cons, Bool.and_eq_true] at h
    obtain ⟨x, rfl, h0, h1⟩ := btw_ex h.1
    obtain ⟨xs, rfl, hb⟩ := all_btw h.2
    exact ⟨x :: xs, rfl, fun y hy => by
      rcases List.mem_cons.mp hy with rfl | hy
      · exact ⟨h0, h1⟩
      · exact hb y hy⟩
theorem e_is_lot {n : Nat} {d : D} (p : Pl n d) (hb : nd d ≤ 100000) : sem_is_lot [.fz d, .fz (.int 60)] = .val (.bl (lotB d)) [.no, .no] := by
  refine fn_eq ?_
  cases p with
  | @tup n ds h =>
    rw [nd] at hb
    have hl := ndL_len ds
    have hs : ds.length ≤ sizeLine := sl16 (by omega)
    walk_at "go body_is_lot hs"
    refine lc_ds hs (fun r acc E => ∃ pre, ds = pre ++ r ∧ acc = pre.map (fun x => D.bl (btw x 0 59)) ∧ E = [.fz (.tup ds), .fz (.int 60), .no, .no]) ⟨[], rfl, rfl, rfl⟩ ?_ ?_
    · rintro x r acc E ⟨pre, e, rfl, rfl⟩
      have px := h x (by rw [e]; simp)
      have e1 := e_is_between px 0 59
      walk_at "go e1"
      exact ⟨pre ++ [x], by simp [e], by simp⟩
    · rintro acc E2 ⟨pre, e, rfl, rfl⟩
      rw [List.append_nil] at e
      subst e
      have e4 : oAll [.lst (ds.map fun x => D.bl (btw x 0 59))] = some (.bl (ds.all fun x => btw x 0 59)) := oAll_map
      by_cases ha : (ds.all fun d => btw d 0 59) = true
      · obtain ⟨xs, rfl, hx⟩ := all_btw ha
        rw [ha] at e4
        have hs2 : xs.length ≤ sizeLine := by rw [List.length_map] at hs; exact hs
        walk_at "go e4 drop_map' zipD_map"
        have hz : (xs.zip (xs.drop 1)).length ≤ sizeLine := by rw [List.length_zip]; omega
        refine lc_fun (k := fun p : Int × Int => D.tup [.int p.1, .int p.2]) hz (fun p => .bl (decide (p.1 < p.2))) (fun p hp => ?_) ?_
        · walk_at "go"
        · have e5 : oAll [.lst ((xs.zip (xs.drop 1)).map fun p => .bl (decide (p.1 < p.2)))] = some (.bl ((xs.zip (xs.drop 1)).all (fun p => decide (p.1 < p.2)))) := oAll_map
          walk_at "go e5"
          rw [lotB, lotF_zip xs hx]
      · have ha' : (ds.all fun d => btw d 0 59) = false := by simpa using ha
        rw [ha'] at e4
        walk_at "go e4"
        rw [lotB]
        cases z : lotF none ds with
        | false => rfl
        | true =>
          obtain ⟨xs, rfl, ok, _⟩ := lotF_ex z
          refine absurd ?_ ha
          rw [List.all_map, List.all_eq_true]
          intro x hx
          have := ok.bd x hx
          simp [btw, this.1, this.2]
  | _ => walk_at "go body_is_lot lotB"
theorem last_at {ps : List Int} {r ds : List D} (hp : ds = ps.map .int ++ r) (h : 0 < ps.length) : ∃ y : Int, atI ds ((ps.length : Int) - 1) = some (.int y) ∧ ps.getLast? = some y := by
  subst hp
  obtain ⟨y, hy⟩ : ∃ y, ps[ps.length - 1]? = some y := ⟨_, List.getElem?_eq_getElem (by omega)⟩
  refine ⟨y, ?_, ?_⟩
  · rw [atI_pos (by omega), show ((ps.length : Int) - 1).toNat = ps.length - 1 by omega, List.getElem?_append_left (by rw [List.length_map]; omega), List.getElem?_map, hy]; rfl
  · rw [List.getLast?_eq_getElem?, hy]
theorem e_rising {n : Nat} {d : D} (p : Pl n d) (hb : nd d ≤ 100000) : sem__law_rising [.fz d] = .val (.bl (lotB d)) [.no] := by
  refine fn_eq ?_
  cases p with
  | @tup n ds h =>
    rw [nd] at hb
    have hl := ndL_len ds
    have hs : ds.length ≤ sizeLine := sl16 (by omega)
    have hr := itR_nat (n := ds.length) (by omega)
    walk_at "go body__law_rising hs hr"
    refine for_rng (fun n E => ∃ (pre : List Int) (r : List D) (s1 : Sl), ds = pre.map .int ++ r ∧ pre.length = n ∧ lotF none ds = lotF pre.getLast? r ∧ E = [.fz (.tup ds), s1]) ⟨[], ds, _, rfl, rfl, rfl, rfl⟩ ?_ ?_
    · rintro n E hn ⟨pre, r, s1, e, rfl, hf, rfl⟩
      cases r with
      | nil => rw [e] at hn; simp at hn
      | cons x r =>
        have px := h x (by rw [e]; simp)
        have e2 := e_lnum px 60
        have gx : atI ds (pre.length : Int) = some x := by have := snoc_get e; rw [List.length_map] at this; exact this
        by_cases hx : btw x 0 (60 - 1) = true
        · rw [hx] at e2
          obtain ⟨i, rfl, i0, i1⟩ := btw_ex hx
          rw [lotF_int] at hf
          simp only [decide_eq_true i0, decide_eq_true (show i ≤ 59 by omega), Bool.true_and] at hf
          have good : gtO pre.getLast? i = true → ∃ (pre' : List Int) (r' : List D) (s1 : Sl), ds = pre'.map .int ++ r' ∧ pre'.length = pre.length + 1 ∧ lotF none ds = lotF pre'.getLast? r' ∧ [Sl.fz (.tup ds), .fz (.int pre.length)] = [Sl.fz (.tup ds), s1] := fun hg =>
            ⟨pre ++ [i], r, _, by simp [e], by simp, by rw [hf, hg]; simp, rfl⟩
          have bad : gtO pre.getLast? i = false → lotF none ds = false := fun hg => by rw [hf, hg]; rfl
          walk_at "go e2 gx"
          · obtain ⟨y, hy, hlt⟩ := last_at e (by omega)
            rw [hlt] at good bad
            walk_at "go hy gx"
            · rw [lotB, bad (decide_eq_false (by omega))]
            · exact good (decide_eq_true (by omega))
          · refine good ?_
            have : pre = [] := List.length_eq_zero_iff.mp (by omega)
            subst this; rfl
        · have hx' : btw x 0 (60 - 1) = false := by simpa using hx
          rw [hx'] at e2
          walk_at "go e2 gx"
          rw [lotB, hf]
          cases x with
          | int i =>
            rw [lotF_int]
            rw [btw_int] at hx'
            simp only [Bool.and_eq_false_iff, decide_eq_false_iff_not] at hx'
            rcases hx' with h | h
            · simp [h]
            · simp [show ¬ i ≤ 59 by omega]
          | _ => rw [lotF_no (fun x h => by cases h)]
    · rintro E ⟨pre, r, s1, e, hn, hf, rfl⟩
      have : r = [] := by
        have := congrArg List.length e
        rw [List.length_append, List.length_map] at this
        exact List.length_eq_zero_iff.mp (by omega)
      subst this
      walk_at "go"
      rw [lotB, hf]; rfl
  | _ => walk_at "go body__law_rising lotB"
theorem e_is_thing2 {n : Nat} {d : D} (p : Pl n d) (hb : nd d ≤ 100000) : sem__law_is_thing [.fz d] = .val (.bl (thB d)) [.no] := by
  refine fn_eq ?_
  have l1 : (1 : Nat) ≤ sizeLine := sl16 (by omega)
  walk_at "go body__law_is_thing l1"
  refine while_run (fun k E => ∃ st s2, E = [.fz d, .own (.lst st), s2] ∧ ndL st = k ∧ k ≤ 100000 ∧ thB d = thL st ∧ ∀ x, x ∈ st → Pl n x) (nd d) (by omega) ?_ ?_
  · exact ⟨[d], _, rfl, by simp [ndL], hb, by simp [thL], by simpa using p⟩
  · rintro k E ⟨st, s2, rfl, rfl, hk, ht, hp⟩
    have hlen := ndL_len st
    have hs : st.length ≤ sizeLine := sl16 (by omega)
    rcases snoc_cases st with rfl | ⟨a, x, rfl⟩
    · walk_at "go hs"
      rw [ht]; rfl
    · have px : Pl n x := hp x (by simp)
      have pa : ∀ y, y ∈ a → Pl n y := fun y hy => hp y (by simp [hy])
      rw [thL_app, thL, thL, Bool.and_true] at ht
      have na : ndL (a ++ [x]) = ndL a + nd x := by rw [ndL_app, ndL, ndL]; omega
      have nx := nd_pos x
      have ll : ((a ++ [x]).length : Int) = a.length + 1 := by simp
      walk_at "go hs ll x_pop"
      cases px with
      | tup ds h =>
        rw [nd] at na
        have hd := ndL_len ds
        have hal := ndL_len a
        have nn := ndL_app a ds
        have h2 : a.length + ds.length ≤ sizeLine := sl16 (by omega)
        have el : oList [.tup ds] = some (.lst ds) := rfl
        walk_at "go x_ext h2 el"
        refine ⟨_, by omega, a ++ ds, _, rfl, rfl, by rw [ndL_app]; omega, by rw [ht, thL_app]; rfl, fun y hy => ?_⟩
        rcases List.mem_append.mp hy with hy | hy
        · exact pa y hy
        · exact (h y hy).up (by omega)
      | _ =>
        walk_at "go rT2"
        first
          | exact ⟨_, by omega, a, _, rfl, rfl, by omega, by rw [ht]; simp [thB], pa⟩
          | (rw [ht]; simp [thB])

/-! ## turned ones -/
def tD (p : Int × D) : D := .tup [.int p.1, p.2]
def isT (gs : List Int) (o : Option Int) : D → Option Int
  | .tup [.int x, t] => if (0 ≤ x ∧ x ≤ 59) ∧ thB t = true ∧ x ∉ gs ∧ gtO o x = true then some x else none
  | _ => none
def fw (gs : List Int) : Option Int → Nat → List D → Option Nat
  | _, _, [] => none
  | o, n, d :: ds => match isT gs o d with
    | some x => fw gs (some x) (n + 1) ds
    | none => some n
theorem isT_ex {gs : List Int} {o : Option Int} {d : D} {x : Int} (h : isT gs o d = some x) : ∃ t, d = tD (x, t) ∧ (0 ≤ x ∧ x ≤ 59) ∧ thB t = true ∧ x ∉ gs ∧ gtO o x = true := by
  unfold isT at h
  split at h
  · rename_i y t
    split at h
    · rename_i hc
      cases h
      exact ⟨t, rfl, hc⟩
    · cases h
  · cases h
structure TurnsOk (gs : List Int) (ts : List (Int × D)) : Prop where
  up : ts.Pairwise fun a b => a.1 < b.1
  ok : ∀ p, p ∈ ts → (0 ≤ p.1 ∧ p.1 ≤ 59) ∧ thB p.2 = true ∧ p.1 ∉ gs
theorem fw_ex {gs : List Int} : ∀ {ds : List D} {o : Option Int} {n : Nat}, fw gs o n ds = none → ∃ ts : List (Int × D), ds = ts.map tD ∧ TurnsOk gs ts ∧ ∀ p, p ∈ ts → gtO o p.1 = true
  | [], o, n, _ => ⟨[], rfl, ⟨List.Pairwise.nil, by simp⟩, by simp⟩
  | d :: ds, o, n, h => by
    rw [fw] at h
    cases z : isT gs o d with
    | none => rw [z] at h; cases h
    | some x =>
      rw [z] at h
      obtain ⟨t, rfl, hx, ht, hg, ho⟩ := isT_ex z
      obtain ⟨ts, rfl, ok, hu⟩ := fw_ex h
      refine ⟨(x, t) :: ts, rfl, ⟨List.pairwise_cons.mpr ⟨fun y hy => of_decide_eq_true (hu y hy), ok.up⟩, fun y hy => ?_⟩, fun y hy => ?_⟩
      · rcases List.mem_cons.mp hy with rfl | hy
        · exact ⟨hx, ht, hg⟩
        · exact ok.ok y hy
      · rcases List.mem_cons.mp hy with rfl | hy
        · exact ho
        · have := of_decide_eq_true (hu y hy)
          cases o with
          | none => rfl
          | some p => have h2 := of_decide_eq_true ho; exact decide_eq_true (by omega)
theorem fw_of {gs : List Int} : ∀ {ts : List (Int × D)} {o : Option Int} {n : Nat}, TurnsOk gs ts → (∀ p, p ∈ ts → gtO o p.1 = true) → fw gs o n (ts.map tD) = none
  | [], _, _, _, _ => rfl
  | (x, t) :: ts, o, n, h, hg => by
    have h2 := List.pairwise_cons.mp h.up
    have hb := h.ok (x, t) (by simp)
    rw [List.map_cons, fw, show isT gs o (tD (x, t)) = some x from if_pos ⟨hb.1, hb.2.1, hb.2.2, hg (x, t) (by simp)⟩]
    exact fw_of ⟨h2.2, fun y hy => h.ok y (by simp [hy])⟩ fun y hy => decide_eq_true (h2.1 y hy)
theorem fw_none {gs : List Int} {ts : List (Int × D)} {n : Nat} (h : TurnsOk gs ts) : fw gs none n (ts.map tD) = none := fw_of h fun _ _ => rfl
theorem x_lot0 {x : Int} {t : D} : oIx (.tup [.int x, t]) (.int 0) = some (.int x) := rfl
theorem lastT {ps : List (Int × D)} {r ds : List D} (hp : ds = ps.map tD ++ r) (h : 0 < ps.length) : ∃ y : Int × D, atI ds ((ps.length : Int) - 1) = some (.tup [.int y.1, y.2]) ∧ (ps.getLast?.map (·.1)) = some y.1 := by
  subst hp
  obtain ⟨y, hy⟩ : ∃ y, ps[ps.length - 1]? = some y := ⟨_, List.getElem?_eq_getElem (by omega)⟩
  refine ⟨y, ?_, ?_⟩
  · rw [atI_pos (by omega), show ((ps.length : Int) - 1).toNat = ps.length - 1 by omega, List.getElem?_append_left (by rw [List.length_map]; omega), List.getElem?_map, hy]; rfl
  · rw [List.getLast?_eq_getElem?, hy]; rfl
def turnB : D → Bool
  | .tup [.int x, t] => decide (0 ≤ x) && (decide (x ≤ 59) && thB t)
  | _ => false
theorem turnB_ex {d : D} (h : turnB d = true) : ∃ x t, d = .tup [.int x, t] ∧ 0 ≤ x ∧ x ≤ 59 ∧ thB t = true := by
  unfold turnB at h
  split at h
  · simp at h; exact ⟨_, _, rfl, h⟩
  · cases h
theorem isT_not {gs : List Int} {o : Option Int} {d : D} (h : turnB d = false) : isT gs o d = none := by
  cases z : isT gs o d with
  | none => rfl
  | some x =>
    obtain ⟨t, rfl, hx, ht, _⟩ := isT_ex z
    simp [turnB, tD, hx.1, hx.2, ht] at h
theorem turnB_len {ds : List D} (h : ds.length ≠ 2) : turnB (.tup ds) = false := by
  unfold turnB
  split
  · rename_i e; cases e; simp at h
  · rfl
theorem len2 {ds : List D} (h : ds.length = 2) : ∃ a b, ds = [a, b] := by
  match ds, h with
  | [a, b], _ => exact ⟨a, b, rfl⟩
theorem turnB_two {a b : D} : turnB (.tup [a, b]) = (btw a 0 59 && thB b) := by
  cases a with
  | int x => simp [turnB, btw, Bool.and_assoc]
  | _ => rfl
theorem Pl.mem2 {n : Nat} {a b : D} (p : Pl n (.tup [a, b])) : Pl n a ∧ Pl n b := by
  cases p with
  | tup _ h => exact ⟨(h a (by simp)).up (by omega), (h b (by simp)).up (by omega)⟩
theorem e_is_turn {n : Nat} {d : D} (p : Pl n d) (hb : nd d ≤ 100000) : sem_is_turn [.fz d] = .val (.bl (turnB d)) [.no] := by
  have es := e_is_sized p hb 2 2
  refine fn_eq ?_
  cases d with
  | tup ds =>
    by_cases hl : ds.length = 2
    · obtain ⟨a, b, rfl⟩ := len2 hl
      obtain ⟨pa, pb⟩ := p.mem2
      have e1 := e_is_between pa 0 59
      have e2 := e_is_thing pb (by simp only [nd, ndL] at hb; omega)
      rw [show szd (.tup [a, b]) 2 2 = true from rfl] at es
      rw [turnB_two]
      cases hc : btw a 0 59 with
      | true => rw [hc] at e1; walk_at "go body_is_turn es e1 e2"
      | false => rw [hc] at e1; walk_at "go body_is_turn es e1"
    · rw [turnB_len hl]
      rw [show szd (.tup ds) 2 2 = false from by simp [szd]; omega] at es
      walk_at "go body_is_turn es"
  | _ => walk_at "go body_is_turn es szd turnB"
theorem e_first_wrong {n : Nat} {gs : List Int} {ds : List D} (p : ∀ d, d ∈ ds → Pl n d) (hb : ndL ds ≤ 100000) :
    sem_first_wrong [.fz (.tup (gs.map .int)), .fz (.tup ds)] = .val (match fw gs none 0 ds with | some n => .int (n : Nat) | none => .non) [.no, .no] := by
  refine fn_eq ?_
  have hm : enumD 0 ds = enumD 0 (ds.map fun x => x) := by simp
  walk_at "go body_first_wrong hm"
  refine for_enum (fun n r E => ∃ (pre : List (Int × D)) (s2 s3 : Sl), ds = pre.map tD ++ r ∧ pre.length = n ∧ fw gs none 0 ds = fw gs (pre.getLast?.map (·.1)) n r ∧ E = [.fz (.tup (gs.map .int)), .fz (.tup ds), s2, s3]) ⟨[], _, _, rfl, rfl, rfl, rfl⟩ ?_ ?_
  · rintro n x r E ⟨pre, s2, s3, e, rfl, hf, rfl⟩
    have px := p x (by rw [e]; simp)
    have hx0 := ndL_mem (ds := ds) (d := x) (by rw [e]; simp)
    have e1 := e_is_turn px (by omega)
    rw [fw] at hf
    by_cases hx : turnB x = true
    · rw [hx] at e1
      obtain ⟨i, t, rfl, i0, i1, ht⟩ := turnB_ex hx
      have e3 := Enc.int.oInT (by omega) i gs
      have good : i ∉ gs → gtO (pre.getLast?.map (·.1)) i = true → ∃ (pre' : List (Int × D)) (s2 s3 : Sl), ds = pre'.map tD ++ r ∧ pre'.length = pre.length + 1 ∧ fw gs none 0 ds = fw gs (pre'.getLast?.map (·.1)) (pre.length + 1) r ∧ [Sl.fz (.tup (gs.map .int)), .fz (.tup ds), .fz (.int pre.length), .fz (.tup [.int i, t])] = [Sl.fz (.tup (gs.map .int)), .fz (.tup ds), s2, s3] := fun h1 h2 =>
        ⟨pre ++ [(i, t)], _, _, by simp [e, tD], by simp, by
          rw [hf, show isT gs (pre.getLast?.map (·.1)) (.tup [.int i, t]) = some i from if_pos ⟨⟨i0, i1⟩, ht, h1, h2⟩]; simp, rfl⟩
      have bad : (i ∈ gs ∨ gtO (pre.getLast?.map (·.1)) i = false) → fw gs none 0 ds = some pre.length := fun h1 => by
        rw [hf, show isT gs (pre.getLast?.map (·.1)) (.tup [.int i, t]) = none from if_neg fun h => by
          rcases h1 with h1 | h1
          · exact h.2.2.1 h1
          · rw [h1] at h; cases h.2.2.2]
      by_cases hi : i ∈ gs
      · rw [decide_eq_true hi] at e3
        walk_at "go e1 e3"
        rw [bad (.inl hi)]
      · rw [decide_eq_false hi] at e3
        walk_at "go e1 e3"
        · obtain ⟨y, hy, hlt⟩ := lastT e (by omega)
          rw [hlt] at good bad
          walk_at "go hy"
          · rw [bad (.inr (decide_eq_false (by omega)))]
          · exact good hi (decide_eq_true (by omega))
        · refine good hi ?_
          have : pre = [] := List.length_eq_zero_iff.mp (by omega)
          subst this; rfl
    · have hx' : turnB x = false := by simpa using hx
      rw [hx'] at e1
      rw [isT_not hx'] at hf
      walk_at "go e1"
      rw [hf]
  · rintro n E ⟨pre, s2, s3, e, rfl, hf, rfl⟩
    walk_at "go"
    rw [hf]; rfl
/-! ## faults -/
def partD (bad worse : D) : D := if lotB bad = true then (match worse with
  | .tup ds => (match fw (lotI bad) none 0 ds with
    | some n => .int (n : Nat)
    | none => .str "let")
  | _ => .str "turned") else .str "lost"
def fD (gs : List Int) (ts : List (Int × D)) : D := .ins 0 ["lost", "turned"] [.tup (gs.map .int), .tup (ts.map tD)]
theorem lotB_ex {d : D} (h : lotB d = true) : ∃ gs : List Int, d = .tup (gs.map .int) ∧ LotOk gs := by
  cases d with
  | tup ds => obtain ⟨xs, rfl, ok, _⟩ := lotF_ex h; exact ⟨xs, rfl, ok⟩
  | _ => cases h
theorem lotB_of {gs : List Int} (h : LotOk gs) : lotB (.tup (gs.map .int)) = true := lotF_of h fun _ _ => rfl
theorem part_ok {gs : List Int} {ts : List (Int × D)} (h : LotOk gs) (h2 : TurnsOk gs ts) : partD (.tup (gs.map .int)) (.tup (ts.map tD)) = .str "let" := by
  unfold partD
  rw [if_pos (lotB_of h), lotI_map]
  simp only [fw_none (n := 0) h2]
theorem e_init_ok {n : Nat} {gs : List Int} {ts : List (Int × D)} {k : Nat} (h : LotOk gs) (h2 : TurnsOk gs ts) (p1 : Pl n (.tup (gs.map .int))) (p2 : Pl n (.tup (ts.map tD))) (b1 : nd (.tup (gs.map .int)) ≤ 100000) (b2 : nd (.tup (ts.map tD)) ≤ 100000) :
    sem_Faults___init__ [.bor k (.ins 0 [] []), .fz (.tup (gs.map .int)), .fz (.tup (ts.map tD))] = .val .non [.bor k (fD gs ts), .no, .no] := by
  have e1 := e_is_lot p1 b1
  rw [lotB_of h] at e1
  have e2 : sem_first_wrong [.fz (.tup (gs.map .int)), .fz (.tup (ts.map tD))] = .val .non [.no, .no] := by
    cases p2 with
    | tup _ h3 =>
      rw [nd] at b2
      rw [e_first_wrong h3 (by omega), fw_none h2]
  refine fn_eq ?_
  walk_at "go body_Faults___init__ e1 e2 putN putD"
  all_goals rfl

theorem e_init_x {n : Nat} {bad worse : D} {k : Nat} (p1 : Pl n bad) (p2 : Pl n worse) (b1 : nd bad ≤ 100000) (b2 : nd worse ≤ 100000) (hz : partD bad worse ≠ .str "let") :
    sem_Faults___init__ [.bor k (.ins 0 [] []), .fz bad, .fz worse] = .exc 1 (some ("part", partD bad worse)) [.bor k (.ins 0 [] []), .no, .no] := by
  have e1 := e_is_lot p1 b1
  refine fn_exc ?_
  by_cases hl : lotB bad = true
  · obtain ⟨gs, rfl, ok⟩ := lotB_ex hl
    rw [hl] at e1
    cases p2 with
    | @tup n ds h3 =>
      rw [nd] at b2
      have e2 := e_first_wrong (gs := gs) h3 (by omega)
      have hp : partD (.tup (gs.map .int)) (.tup ds) = (match fw gs none 0 ds with
        | some n => .int (n : Nat)
        | none => .str "let") := by unfold partD; rw [if_pos hl, lotI_map]; try rfl
      cases z : fw gs none 0 ds with
      | none => rw [z] at hp; exact absurd hp hz
      | some m =>
        rw [z] at hp e2
        rw [hp]
        walk_at "gos body_Faults___init__ e1 e2"
    | _ =>
      have hp : ∀ d : D, (∀ ds, d ≠ .tup ds) → partD (.tup (gs.map .int)) d = .str "turned" := fun d hd => by
        unfold partD; rw [if_pos hl]; cases d <;> first | rfl | exact absurd rfl (hd _)
      rw [hp _ (by intro ds h; cases h)]
      walk_at "gos body_Faults___init__ e1"
  · have hl' : lotB bad = false := by simpa using hl
    rw [hl'] at e1
    have hp : partD bad worse = .str "lost" := by unfold partD; rw [if_neg hl]
    rw [hp]
    walk_at "gos body_Faults___init__ e1"
/-! ## equal also in kind -/
theorem dEq_str {s t : Str} (h : PyData.strOk s = true) (h2 : PyData.strOk t = true) : dEq (.str s) (.str t) = some (s == t) := by
  have a : SeqAt.shaped (PyData.str s) = true := by unfold SeqAt.shaped PyData.canLay0; rw [h]; rfl
  have b : SeqAt.shaped (PyData.str t) = true := by unfold SeqAt.shaped PyData.canLay0; rw [h2]; rfl
  show (if SeqAt.shaped (PyData.str s) = true ∧ SeqAt.shaped (PyData.str t) = true then some (PyData.eqv (PyData.str s) (PyData.str t)) else none) = _
  rw [if_pos ⟨a, b⟩]; unfold PyData.eqv; rfl
theorem oEq_self {s : Str} (h : PyData.strOk s = true) : oEq (.str s) (.str s) = some (.bl true) := by unfold oEq; rw [dEq_str h h]; simp
theorem oNe_self {s : Str} (h : PyData.strOk s = true) : oNe (.str s) (.str s) = some (.bl false) := by unfold oNe; rw [dEq_str h h]; simp
theorem ok_let : PyData.strOk "let" = true := by decide +kernel
theorem ok_lost : PyData.strOk "lost" = true := by decide +kernel
theorem ok_turned : PyData.strOk "turned" = true := by decide +kernel
abbrev IsT (n : Nat) (d : D) : Prop := sem__law_is n [.fz d, .fz d] = .val (.bl true) [.no, .no]
theorem is_int (n : Nat) (a : Int) : IsT (n + 1) (.int a) := by
  refine fn_eq ?_
  walk_at "go body__law_is rTL"
  all_goals simp
theorem is_str {n : Nat} {s : Str} (h : PyData.strOk s = true) : IsT (n + 1) (.str s) := by
  have h := oEq_self h
  refine fn_eq ?_
  walk_at "go body__law_is rTL h"
theorem is_tup {n : Nat} {xs : List D} (hl : xs.length ≤ 100000) (h : ∀ x, x ∈ xs → IsT (n + 1) x) : IsT (n + 2) (.tup xs) := by
  have hx : xs.length ≤ sizeLine := sl16 (by omega)
  have hr := itR_nat (n := xs.length) (by omega)
  refine fn_eq ?_
  walk_at "go body__law_is rTL hx hr"
  refine lc_rng hx (fun i acc E => acc = (List.range i).map (fun _ => D.bl true) ∧ E = [.fz (.tup xs), .fz (.tup xs), .no]) ?_ ?_ ?_
  · exact ⟨rfl, rfl⟩
  · rintro i acc E hi ⟨rfl, rfl⟩
    have gx : atI xs (i : Int) = some xs[i] := by rw [atI_nat', List.getElem?_eq_getElem hi]
    have hh : sem__law_is (n + 1) [.fz xs[i], .fz xs[i]] = .val (.bl true) [.no, .no] := h xs[i] (List.getElem_mem hi)
    walk_at "go gx hh"
    rw [List.range_succ, List.map_append]; rfl
  · rintro acc E2 ⟨rfl, rfl⟩
    have ha := oAll_map (f := fun _ : Nat => true) (xs := List.range xs.length)
    walk_at "go ha"
    simp
theorem is_thD : ∀ {n : Nat} {d : D}, Pl n d → thB d = true → nd d ≤ 100000 → IsT (n + 1) d := by
  intro n d p
  induction p with
  | non => intro _ _; refine fn_eq ?_; walk_at "go body__law_is rTL"
  | bl b => intro _ _; refine fn_eq ?_; walk_at "go body__law_is rTL"; all_goals simp
  | int i => intro _ _; exact is_int _ i
  | str s h => intro _ _; exact is_str h
  | emp => intro h; cases h
  | ins c ns ds => intro h; cases h
  | lst ds h ih => intro h; cases h
  | tup ds h ih =>
    intro ht hb
    rw [nd] at hb
    have hl := ndL_len ds
    exact is_tup (by omega) fun x hx => ih x hx (thL_mem.mp ht x hx) (by have := ndL_mem hx; omega)
theorem IsT.up : ∀ {m n : Nat} {d : D}, Pl m d → thB d = true → nd d ≤ 100000 → m < n → IsT n d := fun {m n d} p h hb hm => by
  obtain ⟨k, rfl⟩ : ∃ k, n = k + 1 := ⟨n - 1, by omega⟩
  exact is_thD (p.up (by omega)) h hb
theorem thB_lot (gs : List Int) : thB (.tup (gs.map .int)) = true := by
  rw [thB, thL_mem]
  intro d hd
  obtain ⟨x, _, rfl⟩ := List.mem_map.mp hd
  rfl
theorem thB_turns {gs : List Int} {ts : List (Int × D)} (h : TurnsOk gs ts) : thB (.tup (ts.map tD)) = true := by
  rw [thB, thL_mem]
  intro d hd
  obtain ⟨x, hx, rfl⟩ := List.mem_map.mp hd
  simp [tD, thB, thL, (h.ok x hx).2.1]
theorem lk_lost {a b : D} : lookD "lost" ["lost", "turned"] [a, b] = some a := rfl
theorem lk_turned {a b : D} : lookD "turned" ["lost", "turned"] [a, b] = some b := rfl
theorem part_let {bad worse : D} (h : partD bad worse = .str "let") : ∃ gs ts, bad = .tup (gs.map .int) ∧ worse = .tup (ts.map tD) ∧ LotOk gs ∧ TurnsOk gs ts := by
  have n1 : (("let" : String) : Str) ≠ "turned" := by decide +kernel
  have n2 : (("let" : String) : Str) ≠ "lost" := by decide +kernel
  unfold partD at h
  split at h
  · rename_i hl
    obtain ⟨gs, rfl, ok⟩ := lotB_ex hl
    rw [lotI_map] at h
    split at h
    · rename_i ds
      split at h
      · cases h
      · rename_i z
        obtain ⟨ts, rfl, ok2, _⟩ := fw_ex z
        exact ⟨gs, ts, rfl, rfl, ok, ok2⟩
    · injection h with h; exact absurd h.symm n1
  · injection h with h; exact absurd h.symm n2
theorem e_made {n : Nat} {bad worse : D} (hn : n < 50) (p1 : Pl n bad) (p2 : Pl n worse) (b1 : nd bad ≤ 100000) (b2 : nd worse ≤ 100000) : sem__law_made [.fz bad, .fz worse] = .val (partD bad worse) [.no, .no] := by
  refine fn_eq ?_
  unfold body__law_made
  by_cases hz : partD bad worse = .str "let"
  · rw [hz]
    obtain ⟨gs, ts, rfl, rfl, ok, ok2⟩ := part_let hz
    have e1 := e_init_ok (k := 0) ok ok2 p1 p2 b1 b2
    have e2 : sem__law_is 50 [.fz (.tup (gs.map .int)), .fz (.tup (gs.map .int))] = .val (.bl true) [.no, .no] := IsT.up p1 (thB_lot gs) b1 hn
    have e3 : sem__law_is 50 [.fz (.tup (ts.map tD)), .fz (.tup (ts.map tD))] = .val (.bl true) [.no, .no] := IsT.up p2 (thB_turns ok2) b2 hn
    unfold fD at e1
    refine seq_cut (fun E => E = [.fz (.tup (gs.map .int)), .fz (.tup (ts.map tD)), .fz (fD gs ts), .no]) ?_ ?_
    · walk_at "gos e1"
      rfl
    rintro E rfl
    unfold fD
    walk_at "go lk_lost lk_turned e2 e3"
  · have e1 := e_init_x (k := 0) p1 p2 b1 b2 hz
    generalize partD bad worse = z at e1
    walk_at "gox e1 tst_BadFaults tst_TalkError tst_ValueError"

theorem len_two {α : Type} {a b : α} : [a, b].length = 2 := rfl
theorem e_part {n : Nat} {bad worse : D} (p1 : Pl n bad) (p2 : Pl n worse) (b1 : nd bad ≤ 100000) (b2 : nd worse ≤ 100000) : sem__law_part [.fz bad, .fz worse] = .val (partD bad worse) [.no, .no] := by
  have e1 := e_rising p1 b1
  refine fn_eq ?_
  by_cases hl : lotB bad = true
  · obtain ⟨gs, rfl, ok⟩ := lotB_ex hl
    rw [hl] at e1
    cases p2 with
    | @tup n ds h3 =>
      rw [nd] at b2
      have hlen := ndL_len ds
      have hx : ds.length ≤ sizeLine := sl16 (by omega)
      have hr := itR_nat (n := ds.length) (by omega)
      have hp : partD (.tup (gs.map .int)) (.tup ds) = (match fw gs none 0 ds with
        | some n => .int (n : Nat)
        | none => .str "let") := by unfold partD; rw [if_pos hl, lotI_map]; try rfl
      rw [hp]
      walk_at "go body__law_part e1 hx hr"
      refine for_rng (fun n E => ∃ (pre : List (Int × D)) (r : List D) (s2 s3 : Sl), ds = pre.map tD ++ r ∧ pre.length = n ∧ fw gs none 0 ds = fw gs (pre.getLast?.map (·.1)) n r ∧ E = [.fz (.tup (gs.map .int)), .fz (.tup ds), s2, s3]) ⟨[], ds, _, _, rfl, rfl, rfl, rfl⟩ ?_ ?_
      · rintro n E hn ⟨pre, r, s2, s3, e, rfl, hf, rfl⟩
        cases r with
        | nil => rw [e] at hn; simp at hn
        | cons x r =>
          have px := h3 x (by rw [e]; simp)
          have hx0 := ndL_mem (ds := ds) (d := x) (by rw [e]; simp)
          have gx : atI ds (pre.length : Int) = some x := by have := snoc_get e; rw [List.length_map] at this; exact this
          rw [fw] at hf
          have none_ : turnB x = false → fw gs none 0 ds = some pre.length := fun h => by rw [hf, isT_not h]
          cases x with
          | tup xs =>
            have hxl : xs.length ≤ sizeLine := sl16 (by rw [nd] at hx0; have := ndL_len xs; omega)
            by_cases hl2 : xs.length = 2
            · obtain ⟨a, b, rfl⟩ := len2 hl2
              obtain ⟨pa, pb⟩ := px.mem2
              have l2 : (2 : Nat) ≤ sizeLine := sl16 (by omega)
              have e2 := e_lnum pa 60
              have e3 := e_is_thing2 pb (by simp only [nd, ndL] at hx0; omega)
              by_cases ha : btw a 0 (60 - 1) = true
              · obtain ⟨i, rfl, i0, i1⟩ := btw_ex ha
                rw [ha] at e2
                by_cases hb : thB b = true
                · rw [hb] at e3
                  have e4 := Enc.int.oInT (by omega) i gs
                  have good : i ∉ gs → gtO (pre.getLast?.map (·.1)) i = true → ∃ (pre' : List (Int × D)) (r' : List D) (s2 s3 : Sl), ds = pre'.map tD ++ r' ∧ pre'.length = pre.length + 1 ∧ fw gs none 0 ds = fw gs (pre'.getLast?.map (·.1)) (pre.length + 1) r' ∧ [Sl.fz (.tup (gs.map .int)), .fz (.tup ds), .fz (.int pre.length), .fz (.tup [.int i, b])] = [Sl.fz (.tup (gs.map .int)), .fz (.tup ds), s2, s3] := fun h1 h2 =>
                    ⟨pre ++ [(i, b)], r, _, _, by simp [e, tD], by simp, by
                      rw [hf, show isT gs (pre.getLast?.map (·.1)) (.tup [.int i, b]) = some i from if_pos ⟨⟨i0, by omega⟩, hb, h1, h2⟩]; simp, rfl⟩
                  have bad : (i ∈ gs ∨ gtO (pre.getLast?.map (·.1)) i = false) → fw gs none 0 ds = some pre.length := fun h1 => by
                    rw [hf, show isT gs (pre.getLast?.map (·.1)) (.tup [.int i, b]) = none from if_neg fun h => by
                      rcases h1 with h1 | h1
                      · exact h.2.2.1 h1
                      · rw [h1] at h; cases h.2.2.2]
                  by_cases hi : i ∈ gs
                  · rw [decide_eq_true hi] at e4
                    rw [bad (.inl hi)]
                    walk_at "go gx e2 e3 e4 l2"
                    obtain ⟨y, hy, hlt⟩ := lastT e (by omega)
                    walk_at "go hy e4"
                  · rw [decide_eq_false hi] at e4
                    walk_at "go gx e2 e3 e4 l2"
                    · obtain ⟨y, hy, hlt⟩ := lastT e (by omega)
                      rw [hlt] at good bad
                      walk_at "go hy e4"
                      all_goals first
                        | exact good hi (decide_eq_true (by omega))
                        | rw [bad (.inr (decide_eq_false (by omega)))]
                    · refine good hi ?_
                      have : pre = [] := List.length_eq_zero_iff.mp (by omega)
                      subst this; rfl
                · have hb' : thB b = false := by simpa using hb
                  rw [hb'] at e3
                  rw [none_ (by rw [turnB_two, hb', Bool.and_false])]
                  walk_at "go gx e2 e3 l2"
              · have ha' : btw a 0 (60 - 1) = false := by simpa using ha
                rw [ha'] at e2
                rw [none_ (by rw [turnB_two, show btw a 0 59 = false from ha', Bool.false_and])]
                walk_at "go gx e2 l2"
            · rw [none_ (turnB_len hl2)]
              walk_at "go gx hxl"
              all_goals (exfalso; omega)
          | _ =>
            first
              | (cases px; done)
              | (rw [none_ rfl]
                 walk_at "go gx"
                 done)
      · rintro E ⟨pre, r, s2, s3, e, hn, hf, rfl⟩
        have : r = [] := by
          have := congrArg List.length e
          rw [List.length_append, List.length_map] at this
          exact List.length_eq_zero_iff.mp (by omega)
        subst this
        walk_at "go"
        rw [hf]; rfl
    | _ =>
      have hp : ∀ d : D, (∀ ds, d ≠ .tup ds) → partD (.tup (gs.map .int)) d = .str "turned" := fun d hd => by
        unfold partD; rw [if_pos hl]; cases d <;> first | rfl | exact absurd rfl (hd _)
      rw [hp _ (by intro ds h; cases h)]
      walk_at "go body__law_part e1"
  · have hl' : lotB bad = false := by simpa using hl
    rw [hl'] at e1
    have hp : partD bad worse = .str "lost" := by unfold partD; rw [if_neg hl]
    rw [hp]
    walk_at "go body__law_part e1"
theorem is_part (bad worse : D) : IsT 50 (partD bad worse) := by
  unfold partD
  split
  · split
    · split
      · exact is_int _ _
      · exact is_str ok_let
    · exact is_str ok_turned
  · exact is_str ok_lost
/-! ## ears -/
def look (l : Int) : List (Int × D) → Option D
  | [] => none
  | p :: ts => if p.1 = l then some p.2 else look l ts
theorem look_none {l : Int} : ∀ {ts : List (Int × D)}, (∀ p, p ∈ ts → p.1 ≠ l) → look l ts = none
  | [], _ => rfl
  | p :: ts, h => by rw [look, if_neg (h p (by simp))]; exact look_none fun q hq => h q (by simp [hq])
theorem look_app {l : Int} : ∀ (a b : List (Int × D)), look l (a ++ b) = (look l a).or (look l b)
  | [], b => by simp [look]
  | p :: a, b => by
    rw [List.cons_append, look, look]
    by_cases h : p.1 = l
    · rw [if_pos h, if_pos h]; rfl
    · rw [if_neg h, if_neg h]; exact look_app a b
theorem look_mem {l : Int} {d : D} : ∀ {ts : List (Int × D)}, look l ts = some d → (l, d) ∈ ts
  | [], h => by cases h
  | p :: ts, h => by
    rw [look] at h
    by_cases hp : p.1 = l
    · rw [if_pos hp] at h; cases h; rw [← hp]; simp
    · rw [if_neg hp] at h; have := look_mem h; simp [this]
def earD (gs : List Int) (ts : List (Int × D)) (l : Int) (t : D) : D := if l ∈ gs then .tup [] else .tup [(look l ts).getD t]
theorem e_ear {gs : List Int} {ts : List (Int × D)} (l : Int) (t : D) : sem_Faults_ear [.fz (fD gs ts), .fz (.int l), .fz t] = .val (earD gs ts l t) [.no, .no, .no] := by
  have e1 := Enc.int.oInT (by omega) l gs
  have l0 : (0 : Nat) ≤ sizeLine := sl16 (by omega)
  have l1 : (1 : Nat) ≤ sizeLine := sl16 (by omega)
  refine fn_eq ?_
  unfold earD fD
  by_cases hg : l ∈ gs
  · rw [decide_eq_true hg] at e1
    rw [if_pos hg]
    walk_at "go body_Faults_ear lk_lost lk_turned e1 l0"
  · rw [decide_eq_false hg] at e1
    rw [if_neg hg]
    walk_at "go body_Faults_ear lk_lost lk_turned e1"
    refine for_maps (f := tD) (xs := ts) (fun rs E => ∃ pre s3 s4, ts = pre ++ rs ∧ look l pre = none ∧ E = [.fz (.ins 0 ["lost", "turned"] [.tup (gs.map .int), .tup (ts.map tD)]), .fz (.int l), .fz t, s3, s4]) ⟨[], _, _, rfl, rfl, rfl⟩ ?_ ?_
    · rintro ⟨x, o⟩ rs E ⟨pre, s3, s4, e, hn, rfl⟩
      walk_at "go tD l1"
      · rename_i hx
        rw [e, look_app, hn, look, if_pos hx]; rfl
      · rename_i hx
        exact ⟨pre ++ [(x, o)], _, _, by simp [e], by rw [look_app, hn, look, if_neg hx]; rfl, rfl⟩
    · rintro E ⟨pre, s3, s4, e, hn, rfl⟩
      rw [List.append_nil] at e
      subst e
      walk_at "go l1"
      rw [hn]; rfl
theorem pl_ear {n : Nat} {gs : List Int} {ts : List (Int × D)} {l : Int} {t : D} (h2 : TurnsOk gs ts) (p2 : Pl n (.tup (ts.map tD))) (pt : Pl n t) (ht : thB t = true) (b2 : nd (.tup (ts.map tD)) ≤ 99000) (bt : nd t ≤ 99000) :
    Pl (n + 1) (earD gs ts l t) ∧ thB (earD gs ts l t) = true ∧ nd (earD gs ts l t) ≤ 100000 := by
  unfold earD
  split
  · exact ⟨.tup [] (by simp), rfl, by simp [nd, ndL]⟩
  · have key : ∀ d : D, Pl n d → thB d = true → nd d ≤ 99000 → Pl (n + 1) (.tup [d]) ∧ thB (.tup [d]) = true ∧ nd (.tup [d]) ≤ 100000 := fun d p h hb =>
      ⟨.tup [d] (by simpa using p), by simp [thB, thL, h], by simp only [nd, ndL]; omega⟩
    cases z : look l ts with
    | none => exact key t pt ht bt
    | some d =>
      have hm := look_mem z
      have hm2 : tD (l, d) ∈ ts.map tD := List.mem_map.mpr ⟨_, hm, rfl⟩
      cases p2 with
      | tup _ h =>
        have := ndL_mem hm2
        simp only [nd, ndL, tD] at this b2
        exact key d ((h _ hm2).mem2.2.up (by omega)) (h2.ok _ hm).2.1 (by omega)
theorem e_hears {n : Nat} {gs : List Int} {ts : List (Int × D)} {t : D} (hn : n < 49) (h2 : TurnsOk gs ts) (p2 : Pl n (.tup (ts.map tD))) (pt : Pl n t) (ht : thB t = true) (b2 : nd (.tup (ts.map tD)) ≤ 99000) (bt : nd t ≤ 99000) :
    sem__law_hears [.fz (fD gs ts), .fz (.tup (gs.map .int)), .fz (.tup (ts.map tD)), .fz t] = .val (.bl true) [.no, .no, .no, .no] := by
  have l0 : (0 : Nat) ≤ sizeLine := sl16 (by omega)
  have l1 : (1 : Nat) ≤ sizeLine := sl16 (by omega)
  have hr : itR [.int 60] = some (rangeD 0 60) := itR_nat (n := 60) (by omega)
  refine fn_eq ?_
  walk_at "go body__law_hears hr"
  refine for_rng (fun n E => ∃ s4 s5 s6, E = [.fz (fD gs ts), .fz (.tup (gs.map .int)), .fz (.tup (ts.map tD)), .fz t, s4, s5, s6]) ⟨_, _, _, rfl⟩ ?_ ?_
  · rintro n E hn2 ⟨s4, s5, s6, rfl⟩
    have e1 := Enc.int.oInT (by omega) (n : Int) gs
    have e3 := e_ear (gs := gs) (ts := ts) (n : Int) t
    obtain ⟨q1, q2, q3⟩ := pl_ear (l := (n : Int)) h2 p2 pt ht b2 bt
    have e4 : sem__law_is 50 [.fz (earD gs ts n t), .fz (earD gs ts n t)] = .val (.bl true) [.no, .no] := IsT.up q1 q2 q3 (by omega)
    walk_at "tgt"
    refine seq_cut (fun E => E = [.fz (fD gs ts), .fz (.tup (gs.map .int)), .fz (.tup (ts.map tD)), .fz t, .fz (.int (n : Nat)), .fz (earD gs [] n t), s6]) ?_ ?_
    · unfold earD
      by_cases hg : (n : Int) ∈ gs
      · rw [decide_eq_true hg] at e1
        rw [if_pos hg]
        walk_at "go e1 l0"
      · rw [decide_eq_false hg] at e1
        rw [if_neg hg]
        walk_at "go e1 l1"
        rfl
    rintro E rfl
    refine seq_cut (fun E => ∃ s6, E = [.fz (fD gs ts), .fz (.tup (gs.map .int)), .fz (.tup (ts.map tD)), .fz t, .fz (.int (n : Nat)), .fz (earD gs ts n t), s6]) ?_ ?_
    · walk_at "go"
      refine for_maps (f := tD) (xs := ts) (fun rs E => ∃ pre s6, ts = pre ++ rs ∧ E = [.fz (fD gs ts), .fz (.tup (gs.map .int)), .fz (.tup (ts.map tD)), .fz t, .fz (.int (n : Nat)), .fz (earD gs pre n t), s6]) ⟨[], _, rfl, rfl⟩ ?_ ?_
      · rintro ⟨x, o⟩ rs E ⟨pre, s6, e, rfl⟩
        have hup := h2.up
        rw [e] at hup
        have ho := h2.ok (x, o) (by rw [e]; simp)
        by_cases hx : x = (n : Int)
        · have hb : (x == (n : Int)) = true := by simpa using hx
          walk_at "go tD l1 hb"
          have hpn : look (n : Int) pre = none := look_none fun q hq => by
            have := (List.pairwise_append.mp hup).2.2 q hq (x, o) (by simp)
            simp only at this; omega
          have he : earD gs (pre ++ [(x, o)]) n t = .tup [o] := by
            unfold earD
            rw [if_neg (by rw [← hx]; exact ho.2.2), look_app, hpn, look, if_pos hx]; rfl
          exact ⟨pre ++ [(x, o)], _, by simp [e], by rw [he]⟩
        · have hb : (x == (n : Int)) = false := by simpa using hx
          walk_at "go tD l1 hb"
          have : look (n : Int) [(x, o)] = none := by rw [look, if_neg hx]; rfl
          have he : earD gs (pre ++ [(x, o)]) n t = earD gs pre n t := by
            unfold earD
            rw [look_app, this, Option.or_none]
          exact ⟨pre ++ [(x, o)], _, by simp [e], by rw [he]⟩
      · rintro E ⟨pre, s6, e, rfl⟩
        rw [List.append_nil] at e
        subst e
        exact ⟨_, rfl⟩
    rintro E ⟨s6, rfl⟩
    unfold fD at e3 ⊢
    have nb : (lookD "ear" ["lost", "turned"] [D.tup (gs.map .int), D.tup (ts.map tD)]).isNone = true := rfl
    walk_at "go e3 e4 nb"
    exact ⟨_, _, _, rfl⟩
  · rintro E ⟨s4, s5, s6, rfl⟩
    walk_at "go"

/-! ## twins -/
mutual
def twD : D → D
  | .bl b => .int (if b = true then 1 else 0)
  | .int i => if i = 0 then .bl false else if i = 1 then .bl true else .int i
  | .tup ds => .tup (twL ds)
  | d => d
def twL : List D → List D
  | [] => []
  | d :: ds => twD d :: twL ds
end
theorem twL_map : ∀ ds : List D, twL ds = ds.map twD
  | [] => by rw [twL]; rfl
  | d :: ds => by rw [twL, twL_map ds]; rfl
theorem e_twin : ∀ {m n : Nat} {d : D}, Pl m d → thB d = true → nd d ≤ 100000 → m < n → sem__law_twin n [.fz d] = .val (twD d) [.no] := by
  intro m n d p
  induction p generalizing n with
  | non => intro _ _ hn; obtain ⟨k, rfl⟩ : ∃ k, n = k + 1 := ⟨n - 1, by omega⟩; refine fn_eq ?_; walk_at "go body__law_twin twD"
  | bl b =>
    intro _ _ hn; obtain ⟨k, rfl⟩ : ∃ k, n = k + 1 := ⟨n - 1, by omega⟩; refine fn_eq ?_
    cases b <;> walk_at "go body__law_twin" <;> simp [twD]
  | int i =>
    intro _ _ hn; obtain ⟨k, rfl⟩ : ∃ k, n = k + 1 := ⟨n - 1, by omega⟩; refine fn_eq ?_
    by_cases h0 : i = 0
    · subst h0
      walk_at "go body__law_twin"
      all_goals simp [twD]
    · by_cases h1 : i = 1
      · subst h1
        walk_at "go body__law_twin"
        all_goals simp [twD]
      · have b0 : (i == 0) = false := by simpa using h0
        have b1 : (i == 1) = false := by simpa using h1
        walk_at "go body__law_twin b0 b1"
        all_goals simp [twD, h0, h1]
  | str s h => intro _ _ hn; obtain ⟨k, rfl⟩ : ∃ k, n = k + 1 := ⟨n - 1, by omega⟩; refine fn_eq ?_; walk_at "go body__law_twin twD"
  | emp => intro h; cases h
  | ins c ns ds => intro h; cases h
  | lst ds h ih => intro h; cases h
  | tup ds h ih =>
    intro ht hb hn; obtain ⟨k, rfl⟩ : ∃ k, n = k + 1 := ⟨n - 1, by omega⟩
    rw [nd] at hb
    have hl := ndL_len ds
    have hs : ds.length ≤ sizeLine := sl16 (by omega)
    refine fn_eq ?_
    walk_at "go body__law_twin"
    refine lc_ds hs (fun r acc E => ∃ pre, ds = pre ++ r ∧ acc = pre.map twD ∧ E = [.fz (.tup ds), .no]) ⟨[], rfl, rfl, rfl⟩ ?_ ?_
    · rintro x r acc E ⟨pre, e, rfl, rfl⟩
      have hx : x ∈ ds := by rw [e]; simp
      have := ndL_mem hx
      have e1 := ih x hx (n := k) (thL_mem.mp ht x hx) (by omega) (by omega)
      walk_at "go e1"
      exact ⟨pre ++ [x], by simp [e], by simp⟩
    · rintro acc E2 ⟨pre, e, rfl, rfl⟩
      rw [List.append_nil] at e
      subst e
      walk_at "go"
      rw [twD, twL_map]
theorem tw_ok : ∀ {m : Nat} {d : D}, Pl m d → thB d = true → Pl m (twD d) ∧ thB (twD d) = true ∧ nd (twD d) = nd d := by
  intro m d p
  induction p with
  | non => intro _; exact ⟨.non, rfl, rfl⟩
  | bl b => intro _; exact ⟨.int _, rfl, rfl⟩
  | int i =>
    intro _
    by_cases h0 : i = 0
    · subst h0; exact ⟨by simp [twD]; exact .bl _, by simp [twD, thB], by simp [twD, nd]⟩
    · by_cases h1 : i = 1
      · subst h1; exact ⟨by simp [twD]; exact .bl _, by simp [twD, thB], by simp [twD, nd]⟩
      · have e : twD (.int i) = .int i := by simp [twD, h0, h1]
        rw [e]; exact ⟨.int _, rfl, rfl⟩
  | str s h => intro _; exact ⟨.str _ h, rfl, rfl⟩
  | emp => intro h; cases h
  | ins c ns ds => intro h; cases h
  | lst ds h ih => intro h; cases h
  | @tup n ds h ih =>
    intro ht
    rw [thB, thL_mem] at ht
    rw [twD, twL_map]
    refine ⟨.tup _ fun x hx => ?_, ?_, ?_⟩
    · obtain ⟨y, hy, rfl⟩ := List.mem_map.mp hx
      exact (ih y hy (ht y hy)).1
    · rw [thB, thL_mem]
      intro x hx
      obtain ⟨y, hy, rfl⟩ := List.mem_map.mp hx
      exact (ih y hy (ht y hy)).2.1
    · rw [nd, nd]
      have : ∀ ds : List D, (∀ y, y ∈ ds → nd (twD y) = nd y) → ndL (ds.map twD) = ndL ds := by
        intro ds
        induction ds with
        | nil => intro _; rfl
        | cons x ds ih2 => intro hh; rw [List.map_cons, ndL, ndL, hh x (by simp), ih2 fun y hy => hh y (by simp [hy])]
      rw [this ds fun y hy => (ih y hy (ht y hy)).2.2]
/-! ## equality of data -/
structure Py (m : Nat) (d : D) (p : PyData) : Prop where
  e : toPy d = some p
  lay : PyData.canLay0 p = true
  dep : PyData.depth p ≤ m
theorem Py.sh {m : Nat} {d : D} {p : PyData} (h : Py m d p) (hm : m ≤ 64) : SeqAt.shaped p = true := by
  unfold SeqAt.shaped
  rw [h.lay, decide_eq_true (Nat.le_trans h.dep hm)]; rfl
theorem dEq_py {m : Nat} {d e : D} {p q : PyData} (h : Py m d p) (h2 : Py m e q) (hm : m ≤ 64) : dEq d e = some (PyData.eqv p q) := by
  unfold dEq
  rw [h.e, h2.e]
  simp only [h.sh hm, h2.sh hm, and_self, if_true]
theorem Py.tup {m : Nat} {α : Type} {f : α → D} {g : α → PyData} : ∀ {xs : List α}, (∀ x, x ∈ xs → Py m (f x) (g x)) → Py (m + 1) (.tup (xs.map f)) (.tuple (xs.map g)) := by
  intro xs h
  have key : ∀ xs : List α, (∀ x, x ∈ xs → Py m (f x) (g x)) → toPyL (xs.map f) = some (xs.map g) ∧ PyData.canLayAll0 (xs.map g) = true ∧ PyData.depthAll (xs.map g) ≤ m := by
    intro xs
    induction xs with
    | nil => intro _; exact ⟨rfl, by simp [PyData.canLayAll0], by simp [PyData.depthAll]⟩
    | cons x xs ih =>
      intro h
      obtain ⟨a, b, c⟩ := ih fun y hy => h y (by simp [hy])
      have hx := h x (by simp)
      have hd := hx.dep
      refine ⟨?_, ?_, ?_⟩
      · rw [List.map_cons, toPyL, hx.e, a]; rfl
      · rw [List.map_cons, PyData.canLayAll0, hx.lay, b]; rfl
      · rw [List.map_cons, PyData.depthAll]; omega
  obtain ⟨a, b, c⟩ := key xs h
  refine ⟨?_, ?_, ?_⟩
  · rw [toPy, a]; rfl
  · rw [PyData.canLay0]; exact b
  · rw [PyData.depth]; omega
mutual
def pyD : D → PyData
  | .bl b => .bool b
  | .int i => .int i
  | .str s => .str s
  | .tup ds => .tuple (pyL ds)
  | _ => .none
def pyL : List D → List PyData
  | [] => []
  | d :: ds => pyD d :: pyL ds
end
theorem pyL_map : ∀ ds : List D, pyL ds = ds.map pyD
  | [] => by rw [pyL]; rfl
  | d :: ds => by rw [pyL, pyL_map ds]; rfl
theorem py_ok : ∀ {m : Nat} {d : D}, Pl m d → thB d = true → Py m d (pyD d) := by
  intro m d p
  induction p with
  | non => intro _; exact ⟨rfl, by simp [pyD, PyData.canLay0], by simp [pyD, PyData.depth]⟩
  | bl b => intro _; exact ⟨rfl, by simp [pyD, PyData.canLay0], by simp [pyD, PyData.depth]⟩
  | int i => intro _; exact ⟨rfl, by simp [pyD, PyData.canLay0], by simp [pyD, PyData.depth]⟩
  | str s h => intro _; exact ⟨rfl, by simp [pyD, PyData.canLay0, h], by simp [pyD, PyData.depth]⟩
  | emp => intro h; cases h
  | ins c ns ds => intro h; cases h
  | lst ds h ih => intro h; cases h
  | tup ds h ih =>
    intro ht
    rw [thB, thL_mem] at ht
    have := Py.tup (f := fun d => d) (g := pyD) (xs := ds) fun x hx => ih x hx (ht x hx)
    rw [List.map_id'] at this
    rw [pyD, pyL_map]
    exact this
theorem eqvAll_map {α : Type} {f g : α → PyData} : ∀ {xs : List α}, (∀ x, x ∈ xs → PyData.eqv (f x) (g x) = true) → PyData.eqvAll (xs.map f) (xs.map g) = true
  | [], _ => by simp [PyData.eqvAll]
  | x :: xs, h => by
    rw [List.map_cons, List.map_cons, PyData.eqvAll, h x (by simp), eqvAll_map fun y hy => h y (by simp [hy])]; rfl
theorem eqv_tw : ∀ {m : Nat} {d : D}, Pl m d → thB d = true → PyData.eqv (pyD d) (pyD (twD d)) = true := by
  intro m d p
  induction p with
  | non => intro _; simp [pyD, twD, PyData.eqv]
  | bl b => intro _; cases b <;> simp [pyD, twD, PyData.eqv]
  | int i =>
    intro _
    by_cases h0 : i = 0
    · subst h0; simp [pyD, twD, PyData.eqv]
    · by_cases h1 : i = 1
      · subst h1; simp [pyD, twD, PyData.eqv]
      · have e : twD (.int i) = .int i := by simp [twD, h0, h1]
        rw [e]; simp [pyD, PyData.eqv]
  | str s h => intro _; simp [pyD, twD, PyData.eqv]
  | emp => intro h; cases h
  | ins c ns ds => intro h; cases h
  | lst ds h ih => intro h; cases h
  | tup ds h ih =>
    intro ht
    rw [thB, thL_mem] at ht
    rw [twD, pyD, pyD, pyL_map, twL_map, pyL_map, List.map_map, PyData.eqv]
    exact eqvAll_map fun x hx => ih x hx (ht x hx)
theorem eqvAll_len : ∀ {xs ys : List PyData}, PyData.eqvAll xs ys = true → xs.length = ys.length
  | [], [], _ => rfl
  | x :: xs, y :: ys, h => by
    rw [PyData.eqvAll, Bool.and_eq_true] at h
    rw [List.length_cons, List.length_cons, eqvAll_len h.2]
  | [], y :: ys, h => by simp [PyData.eqvAll] at h
  | x :: xs, [], h => by simp [PyData.eqvAll] at h
def twT (p : Int × D) : Int × D := (p.1, twD p.2)
theorem eqT_tw {m : Nat} {ts : List (Int × D)} (p : Pl m (.tup (ts.map tD))) (h : ∀ q, q ∈ ts → thB q.2 = true) (hm : m ≤ 60) : oEq (.tup (ts.map tD)) (.tup ((ts.map twT).map tD)) = some (.bl true) := by
  cases p with
  | @tup m _ h2 =>
    have a : Py (m + 1) (.tup (ts.map tD)) (.tuple (ts.map fun p => .tuple ([D.int p.1, p.2].map pyD))) := Py.tup fun q hq => by
      have hp := h2 (tD q) (List.mem_map.mpr ⟨q, hq, rfl⟩)
      have := py_ok hp (by simp [tD, thB, thL, h q hq])
      simp only [tD, pyD, pyL] at this
      exact this
    have b : Py (m + 1) (.tup ((ts.map twT).map tD)) (.tuple (ts.map fun p => .tuple ([D.int p.1, twD p.2].map pyD))) := by
      rw [List.map_map]
      refine Py.tup fun q hq => ?_
      have hp := h2 (tD q) (List.mem_map.mpr ⟨q, hq, rfl⟩)
      cases hp with
      | @tup m _ h3 =>
        have pq := h3 q.2 (by simp)
        obtain ⟨w1, w2, _⟩ := tw_ok pq (h q hq)
        have := py_ok (m := m + 1) (d := .tup [.int q.1, twD q.2]) (.tup _ (by simp; exact ⟨.int _, w1⟩)) (by simp [thB, thL, w2])
        simp only [pyD, pyL] at this
        exact this
    unfold oEq
    rw [dEq_py a b (by omega)]
    have : PyData.eqv (.tuple (ts.map fun p => .tuple ([D.int p.1, p.2].map pyD))) (.tuple (ts.map fun p => .tuple ([D.int p.1, twD p.2].map pyD))) = true := by
      rw [PyData.eqv]
      refine eqvAll_map fun q hq => ?_
      have hp := h2 (tD q) (List.mem_map.mpr ⟨q, hq, rfl⟩)
      have := eqv_tw hp.mem2.2 (h q hq)
      simp [PyData.eqv, PyData.eqvAll, pyD, this]
    rw [this]; rfl
theorem eqT_len {m : Nat} {xs ys : List D} (p : Pl m (.tup xs)) (p2 : Pl m (.tup ys)) (h : thB (.tup xs) = true) (h2 : thB (.tup ys) = true) (hm : m ≤ 60) (hl : xs.length ≠ ys.length) : oEq (.tup xs) (.tup ys) = some (.bl false) := by
  unfold oEq
  rw [dEq_py (py_ok p h) (py_ok p2 h2) (by omega)]
  have : PyData.eqv (pyD (.tup xs)) (pyD (.tup ys)) = false := by
    cases z : PyData.eqv (pyD (.tup xs)) (pyD (.tup ys)) with
    | false => rfl
    | true =>
      rw [pyD, pyD, PyData.eqv] at z
      have := eqvAll_len z
      rw [pyL_map, pyL_map, List.length_map, List.length_map] at this
      exact absurd this hl
  rw [this]; rfl
theorem oEq_lots (a b : List Int) : oEq (.tup (a.map .int)) (.tup (b.map .int)) = some (.bl (decide (a = b))) := Enc.int.tup.eq (by omega) a b
theorem isc_oth : oIsi 2 [.ins 1 ns ds, .cls 0] = some (.bl false) := rfl
theorem e_eq {gs gs2 : List Int} {ts ts2 : List (Int × D)} {b : Bool} (h : oEq (.tup (ts.map tD)) (.tup (ts2.map tD)) = some (.bl b)) : sem_Faults___eq__ [.fz (fD gs ts), .fz (fD gs2 ts2)] = .val (.bl (decide (gs = gs2) && b)) [.no, .no] := by
  have e1 := oEq_lots gs gs2
  refine fn_eq ?_
  unfold fD
  by_cases hg : gs = gs2
  · rw [decide_eq_true hg] at e1 ⊢
    walk_at "go body_Faults___eq__ lk_lost lk_turned e1 h"
  · rw [decide_eq_false hg] at e1 ⊢
    walk_at "go body_Faults___eq__ lk_lost lk_turned e1"
theorem e_eqD {gs gs2 : List Int} {ts ts2 : List (Int × D)} (hg : gs ≠ gs2) : sem_Faults___eq__ [.fz (fD gs ts), .fz (fD gs2 ts2)] = .val (.bl false) [.no, .no] := by
  have e1 := oEq_lots gs gs2
  rw [decide_eq_false hg] at e1
  refine fn_eq ?_
  unfold fD
  walk_at "go body_Faults___eq__ lk_lost lk_turned e1"
theorem e_eqT {gs : List Int} {ts : List (Int × D)} (ds : List D) : sem_Faults___eq__ [.fz (fD gs ts), .fz (.tup ds)] = .val (.bl false) [.no, .no] := by
  refine fn_eq ?_
  walk_at "go body_Faults___eq__"
theorem e_eqH {gs : List Int} {ts : List (Int × D)} {ns : List Str} {ds : List D} : sem_Faults___eq__ [.fz (fD gs ts), .fz (.ins 1 ns ds)] = .val (.bl false) [.no, .no] := by
  have e1 := isc_oth (ns := ns) (ds := ds)
  refine fn_eq ?_
  walk_at "go body_Faults___eq__ e1"

/-! ## drawn things -/
theorem strOk_app {a b : Str} (h : PyData.strOk a = true) (h2 : PyData.strOk b = true) : PyData.strOk (a ++ b) = true := by
  have e : (a ++ b).cps = a.cps ++ b.cps := rfl
  unfold PyData.strOk at *
  rw [e, Array.all_append, h, h2]; rfl
theorem strOk_emp : PyData.strOk (Str.ofString "") = true := by decide +kernel
theorem strOk_join {y : Str} (hy : PyData.strOk y = true) : ∀ ss : List Str, (∀ s, s ∈ ss → PyData.strOk s = true) → PyData.strOk (Str.join y ss) = true
  | [], _ => by show PyData.strOk Str.empty = true; decide +kernel
  | [x], h => h x (by simp)
  | x :: z :: r, h => by
    show PyData.strOk (x ++ y ++ Str.join y (z :: r)) = true
    exact strOk_app (strOk_app (h x (by simp)) hy) (strOk_join hy (z :: r) fun s hs => h s (by simp [hs]))
theorem strOk_txt {y : Str} (hy : PyData.strOk y = true) {ss : List Str} (h : ∀ s, s ∈ ss → PyData.strOk s = true) : PyData.strOk (Txt.join y ss) = true := by
  have e : Txt.join y ss = Str.join y ss := StrLaws.glued_eq_join y ss
  rw [e]; exact strOk_join hy ss h
theorem strsD_map : ∀ ss : List Str, strsD (ss.map .str) = some ss
  | [] => rfl
  | s :: ss => by rw [List.map_cons, strsD, strsD_map ss]
theorem sum_len {n : Nat} : ∀ {ss : List Str}, (∀ s, s ∈ ss → s.length ≤ n) → (ss.map (·.length)).sum ≤ ss.length * n
  | [], _ => by simp
  | s :: ss, h => by
    rw [List.map_cons, List.sum_cons, List.length_cons, Nat.succ_mul]
    have := h s (by simp)
    have := sum_len (n := n) (ss := ss) fun t ht => h t (by simp [ht])
    omega
theorem x_join {y : Str} {ss : List Str} {n : Nat} (h : ∀ s, s ∈ ss → s.length ≤ n) (hl : ss.length * n + ss.length * y.length ≤ 16777216) : oJoin (.str y) (.lst (ss.map .str)) = some (.str (Txt.join y ss)) := by
  show joinS y (ss.map .str) = _
  unfold joinS
  rw [strsD_map]
  simp only
  rw [if_pos (by have := sum_len h; omega)]
theorem e_signs : sem__law_signs [] = .val (.str " !#$&()*+,-/0123456789:;<=>?@ABCDEFGHIJKLMNOPQRSTUVWXYZ[]^_abcdefghijklmnopqrstuvwxyz{|}~\"'\\.") [] := by
  refine fn_eq ?_
  walk_at "go body__law_signs"
theorem e_wrap0 {n : Nat} (d : D) (hn : n ≤ 60) : sem__law_wrapped [.fz d, .fz (.int (n : Nat)), .fz (.int 0)] = .val (Nat.repeat (fun d => .tup [d]) n d) [.no, .no, .no] := by
  have l1 : (1 : Nat) ≤ sizeLine := sl16 (by omega)
  have hr := itR_nat (n := n) (by omega)
  refine fn_eq ?_
  walk_at "go body__law_wrapped hr"
  refine for_rng (fun i E => ∃ s3, E = [.fz (Nat.repeat (fun d => .tup [d]) i d), .fz (.int (n : Nat)), .fz (.int 0), s3]) ⟨_, rfl⟩ ?_ ?_
  · rintro i E hi ⟨s3, rfl⟩
    walk_at "go l1"
    exact ⟨_, rfl⟩
  · rintro E ⟨s3, rfl⟩
    walk_at "go"
theorem e_wrap1 {n : Nat} (d : D) (hn : n ≤ 60) : sem__law_wrapped [.fz d, .fz (.int (n : Nat)), .fz (.int 1)] = .val (Nat.repeat (fun d => .lst [d]) n d) [.no, .no, .no] := by
  have l1 : (1 : Nat) ≤ sizeLine := sl16 (by omega)
  have hr := itR_nat (n := n) (by omega)
  refine fn_eq ?_
  walk_at "go body__law_wrapped hr"
  refine for_rng (fun i E => ∃ s3, E = [.fz (Nat.repeat (fun d => .lst [d]) i d), .fz (.int (n : Nat)), .fz (.int 1), s3]) ⟨_, rfl⟩ ?_ ?_
  · rintro i E hi ⟨s3, rfl⟩
    walk_at "go l1"
    exact ⟨_, rfl⟩
  · rintro E ⟨s3, rfl⟩
    walk_at "go"
theorem wrapT_ok {m : Nat} {d : D} : ∀ n : Nat, Pl m d → Pl (m + n) (Nat.repeat (fun d => .tup [d]) n d) ∧ nd (Nat.repeat (fun d => .tup [d]) n d) = nd d + n ∧ thB (Nat.repeat (fun d => .tup [d]) n d) = thB d
  | 0, p => ⟨p, rfl, rfl⟩
  | n + 1, p => by
    obtain ⟨a, b, c⟩ := wrapT_ok n p
    rw [Nat.repeat]
    exact ⟨.tup _ (by simpa using a), by rw [nd, ndL, ndL, b]; omega, by rw [thB, thL, thL, c, Bool.and_true]⟩
theorem wrapL_ok {m : Nat} {d : D} : ∀ n : Nat, Pl m d → Pl (m + n) (Nat.repeat (fun d => .lst [d]) n d) ∧ nd (Nat.repeat (fun d => .lst [d]) n d) = nd d + n
  | 0, p => ⟨p, rfl⟩
  | n + 1, p => by
    obtain ⟨a, b⟩ := wrapL_ok n p
    rw [Nat.repeat]
    exact ⟨.lst _ (by simpa using a), by rw [nd, ndL, ndL, b]; omega⟩
theorem someS_ok {h : D} {k : Nat} {s : Str} (hh : HandD h) (h0 : 0 < s.length) (h1 : s.length ≤ 100000) : wpF (sem__law_some [.bor k h, .fz (.str s)]) (fun d bs => ∃ h' c, d = .str ⟨#[c]⟩ ∧ c ∈ s.cps.toList ∧ bs = [.bor k h', .no] ∧ HandD h') := by
  have hs : s.length ≤ sizeLine := sl16 (by omega)
  refine fn_run ?_
  walk_at "go body__law_some hs"
  refine call_by (draw_ok hh (by omega) (by omega)) ?_
  rintro d bs ⟨r, h', rfl, rfl, hh', r0, r1⟩
  have hl : s.cps.toList.length = s.length := rfl
  obtain ⟨c, hc⟩ : ∃ c, s.cps.toList[r.toNat]? = some c := ⟨_, List.getElem?_eq_getElem (by omega)⟩
  have gx : oIx (.str s) (.int r) = some (.str ⟨#[c]⟩) := by
    unfold oIx
    simp only [if_pos hs]
    rw [atI_get r0 hc]; rfl
  walk_at "go gx"
  exact ⟨h', c, rfl, List.mem_of_getElem? hc, rfl, hh'⟩
theorem some_of {h : D} {k : Nat} {xs : List D} {P : D → Prop} (hh : HandD h) (h0 : 0 < xs.length) (h1 : xs.length ≤ 1000000) (hP : ∀ d, d ∈ xs → P d) : wpF (sem__law_some [.bor k h, .fz (.lst xs)]) (fun d bs => ∃ h', P d ∧ bs = [.bor k h', .no] ∧ HandD h') :=
  wpF_imp (some_ok hh h0 h1) fun d bs ⟨h', hd, hb, hh'⟩ => ⟨h', hP d hd, hb, hh'⟩
theorem word_ok {h : D} {k : Nat} (hh : HandD h) : wpF (sem__law_word [.bor k h]) (fun d bs => ∃ h' s, d = .str s ∧ PyData.strOk s = true ∧ bs = [.bor k h'] ∧ HandD h') := by
  have e1 := e_signs
  have l7 : (7 : Nat) ≤ sizeLine := sl16 (by omega)
  have l2 : (2 : Nat) ≤ sizeLine := sl16 (by omega)
  refine fn_run ?_
  unfold body__law_word
  refine seq_cut (fun E => ∃ h' n, E = [.bor k h', .fz (.str " !#$&()*+,-/0123456789:;<=>?@ABCDEFGHIJKLMNOPQRSTUVWXYZ[]^_abcdefghijklmnopqrstuvwxyz{|}~\"'\\."), .fz (.int (n : Nat)), .no] ∧ HandD h' ∧ n ≤ 40) ?_ ?_
  · walk_at "go e1 l7"
    walk_at "go e1 l7"
    refine call_by (some_of (P := fun d => ∃ n : Nat, d = .int n ∧ n ≤ 40) hh (by simp) (by simp) fun d hd => ?_) ?_
    · simp only [List.mem_cons, List.not_mem_nil, or_false] at hd
      rcases hd with rfl | rfl | rfl | rfl | rfl | rfl | rfl
      · exact ⟨0, rfl, by omega⟩
      · exact ⟨1, rfl, by omega⟩
      · exact ⟨1, rfl, by omega⟩
      · exact ⟨2, rfl, by omega⟩
      · exact ⟨3, rfl, by omega⟩
      · exact ⟨5, rfl, by omega⟩
      · exact ⟨40, rfl, by omega⟩
    rintro d bs ⟨h', ⟨n, rfl, hn⟩, rfl, hh'⟩
    walk_at "go l2"
    exact ⟨h', n, rfl, hh', hn⟩
  rintro E ⟨h', n, rfl, hh', hn⟩
  have hr := itR_nat (n := n) (by omega)
  walk_at "go hr"
  refine lc_rng (sl16 (by omega)) (fun i acc E => ∃ h ss, acc = List.map D.str ss ∧ E = [.bor k h, .fz (.str " !#$&()*+,-/0123456789:;<=>?@ABCDEFGHIJKLMNOPQRSTUVWXYZ[]^_abcdefghijklmnopqrstuvwxyz{|}~\"'\\."), .fz (.int (n : Nat)), .no] ∧ HandD h ∧ ss.length = i ∧ ∀ s, s ∈ ss → PyData.strOk s = true ∧ s.length ≤ 1) ⟨h', [], rfl, rfl, hh', rfl, by simp⟩ ?_ ?_
  · rintro i acc E hi ⟨h, ss, rfl, rfl, hh, hl, hs⟩
    walk_at "go"
    refine call_by (someS_ok hh (by decide +kernel) (by decide +kernel)) ?_
    rintro d bs ⟨h2, c, rfl, hc, rfl, hh2⟩
    walk_at "go"
    refine ⟨h2, ss ++ [⟨#[c]⟩], by simp, rfl, hh2, by simp [hl], fun s hs2 => ?_⟩
    rcases List.mem_append.mp hs2 with h | h
    · exact hs s h
    · cases List.mem_singleton.mp h
      refine ⟨?_, Nat.le_refl _⟩
      have : ∀ c, c ∈ (Str.ofString " !#$&()*+,-/0123456789:;<=>?@ABCDEFGHIJKLMNOPQRSTUVWXYZ[]^_abcdefghijklmnopqrstuvwxyz{|}~\"'\\.").cps.toList → c < 1114112 := by decide +kernel
      simp [PyData.strOk, this c hc]
  · rintro acc E2 ⟨h, ss, rfl, rfl, hh, hl, hs⟩
    have e3 := x_join (y := Str.ofString "") (n := 1) (fun s h => (hs s h).2) (by rw [hl, show (Str.ofString "").length = 0 by decide +kernel]; omega)
    walk_at "go e3"
    exact ⟨h, _, rfl, strOk_txt strOk_emp fun s h => (hs s h).1, rfl, hh⟩

def nb : Nat → Nat
  | 0 => 2
  | m + 1 => 3 * nb m + 1
theorem nb_pos : ∀ m, 2 ≤ nb m
  | 0 => Nat.le_refl _
  | m + 1 => by have := nb_pos m; rw [nb]; omega
theorem ok_nl : PyData.strOk "\n" = true := by decide +kernel
structure Th (n b : Nat) (d : D) : Prop where
  pl : Pl n d
  th : thB d = true
  nd : nd d ≤ b
theorem ndL_le {b : Nat} : ∀ {ds : List D}, (∀ d, d ∈ ds → nd d ≤ b) → ndL ds ≤ ds.length * b
  | [], _ => by simp [ndL]
  | d :: ds, h => by
    rw [ndL, List.length_cons, Nat.succ_mul]
    have := h d (by simp)
    have := ndL_le (ds := ds) (b := b) fun x hx => h x (by simp [hx])
    omega
theorem thing_ok : ∀ (m n : Nat) {h : D} {k : Nat}, m < n → m ≤ 4 → HandD h → wpF (sem__law_thing n [.bor k h, .fz (.int (m : Nat))]) (fun d bs => ∃ h', Th (m + 1) (nb m) d ∧ bs = [.bor k h', .no] ∧ HandD h') := by
  intro m
  induction m with
  | zero =>
    intro n h k hn _ hh
    obtain ⟨n, rfl⟩ : ∃ z, n = z + 1 := ⟨n - 1, by omega⟩
    have l13 : (13 : Nat) ≤ sizeLine := sl16 (by omega)
    have l0 : (0 : Nat) ≤ sizeLine := sl16 (by omega)
    have l1 : (1 : Nat) ≤ sizeLine := sl16 (by omega)
    refine fn_run ?_
    unfold body__law_thing
    refine seq_cut (fun E => ∃ h kind, E = [.bor k h, .fz (.int ((0 : Nat) : Int)), .fz (.int kind), .no] ∧ HandD h ∧ 0 ≤ kind ∧ kind < 6) ?_ ?_
    · walk_at "go"
      refine call_by (draw_ok hh (by omega) (by omega)) ?_
      rintro d bs ⟨r, h2, rfl, rfl, hh2, r0, r1⟩
      walk_at "go"
      exact ⟨_, _, rfl, hh2, r0, r1⟩
    clear hh
    rintro E ⟨h, kind, rfl, hh, k0, k1⟩
    walk_at "go p20 l13 l0 l1"
    · refine call_by (some_of (P := Th 1 2) hh (by simp) (by simp) fun d hd => ?_) ?_
      · simp only [List.mem_cons, List.not_mem_nil, or_false] at hd
        rcases hd with rfl | rfl | rfl | rfl | rfl | rfl | rfl | rfl | rfl | rfl | rfl | rfl | rfl
        · exact ⟨.non, rfl, by decide⟩
        · exact ⟨.bl _, rfl, by decide⟩
        · exact ⟨.bl _, rfl, by decide⟩
        · exact ⟨.int _, rfl, by simp [nd]⟩
        · exact ⟨.int _, rfl, by simp [nd]⟩
        · exact ⟨.int _, rfl, by simp [nd]⟩
        · exact ⟨.int _, rfl, by simp [nd]⟩
        · exact ⟨.int _, rfl, by simp [nd]⟩
        · exact ⟨.str _ ok_nl, rfl, by simp [nd]⟩
        · exact ⟨.str _ strOk_emp, rfl, by simp [nd]⟩
        · exact ⟨.tup _ (by simp), rfl, by simp [nd, ndL]⟩
        · exact ⟨.tup _ (by simp; exact .int _), rfl, by simp [nd, ndL]⟩
        · exact ⟨.tup _ (by simp; exact .bl _), rfl, by simp [nd, ndL]⟩
      rintro d bs ⟨h', hd, rfl, hh'⟩
      walk_at "go"
      exact ⟨_, hd, rfl, hh'⟩
    · refine call_by (word_ok hh) ?_
      rintro d bs ⟨h', s, rfl, hs, rfl, hh'⟩
      walk_at "go"
      exact ⟨_, ⟨.str _ hs, rfl, by simp [nd, nb]⟩, rfl, hh'⟩
    · refine call_by (draw_ok hh (by omega) (by omega)) ?_
      rintro d bs ⟨r, h2, rfl, rfl, hh2, r0, r1⟩
      walk_at "go"
      exact ⟨_, ⟨.int _, rfl, by simp [nd, nb]⟩, rfl, hh2⟩
  | succ m ih =>
    intro n h k hn hm hh
    obtain ⟨n, rfl⟩ : ∃ z, n = z + 1 := ⟨n - 1, by omega⟩
    have l13 : (13 : Nat) ≤ sizeLine := sl16 (by omega)
    have l0 : (0 : Nat) ≤ sizeLine := sl16 (by omega)
    have l1 : (1 : Nat) ≤ sizeLine := sl16 (by omega)
    have hnb := nb_pos m
    have e0 : nb (m + 1) = 3 * nb m + 1 := rfl
    refine fn_run ?_
    unfold body__law_thing
    refine seq_cut (fun E => ∃ h kind, E = [.bor k h, .fz (.int ((m + 1 : Nat) : Int)), .fz (.int kind), .no] ∧ HandD h ∧ 0 ≤ kind) ?_ ?_
    · walk_at "go"
      refine call_by (draw_ok hh (by omega) (by omega)) ?_
      rintro d bs ⟨r, h2, rfl, rfl, hh2, r0, r1⟩
      walk_at "go"
      exact ⟨_, _, rfl, hh2, r0⟩
    clear hh
    rintro E ⟨h, kind, rfl, hh, k0⟩
    walk_at "go p20 l13 l0 l1"
    · refine call_by (some_of (P := Th 1 2) hh (by simp) (by simp) fun d hd => ?_) ?_
      · simp only [List.mem_cons, List.not_mem_nil, or_false] at hd
        rcases hd with rfl | rfl | rfl | rfl | rfl | rfl | rfl | rfl | rfl | rfl | rfl | rfl | rfl
        · exact ⟨.non, rfl, by decide⟩
        · exact ⟨.bl _, rfl, by decide⟩
        · exact ⟨.bl _, rfl, by decide⟩
        · exact ⟨.int _, rfl, by simp [nd]⟩
        · exact ⟨.int _, rfl, by simp [nd]⟩
        · exact ⟨.int _, rfl, by simp [nd]⟩
        · exact ⟨.int _, rfl, by simp [nd]⟩
        · exact ⟨.int _, rfl, by simp [nd]⟩
        · exact ⟨.str _ ok_nl, rfl, by simp [nd]⟩
        · exact ⟨.str _ strOk_emp, rfl, by simp [nd]⟩
        · exact ⟨.tup _ (by simp), rfl, by simp [nd, ndL]⟩
        · exact ⟨.tup _ (by simp; exact .int _), rfl, by simp [nd, ndL]⟩
        · exact ⟨.tup _ (by simp; exact .bl _), rfl, by simp [nd, ndL]⟩
      rintro d bs ⟨h', hd, rfl, hh'⟩
      walk_at "go"
      exact ⟨_, ⟨hd.pl.up (by omega), hd.th, by have := hd.nd; omega⟩, rfl, hh'⟩
    · refine call_by (word_ok hh) ?_
      rintro d bs ⟨h', s, rfl, hs, rfl, hh'⟩
      walk_at "go"
      exact ⟨_, ⟨.str _ hs, rfl, by simp [nd]; omega⟩, rfl, hh'⟩
    · refine call_by (draw_ok hh (by omega) (by omega)) ?_
      rintro d bs ⟨r, h2, rfl, rfl, hh2, r0, r1⟩
      walk_at "go"
      exact ⟨_, ⟨.int _, rfl, by simp [nd]; omega⟩, rfl, hh2⟩
    · refine call_by (draw_ok hh (by omega) (by omega)) ?_
      rintro d bs ⟨r, h2, rfl, rfl, hh2, r0, r1⟩
      obtain ⟨r, rfl⟩ := Int.eq_ofNat_of_zero_le r0
      have hr := itR_nat (n := r) (by omega)
      walk_at "go hr"
      refine lc_rng (sl16 (by omega)) (fun i acc E => ∃ h, E = [.bor k h, .fz (.int ((m + 1 : Nat) : Int)), .fz (.int kind), .no] ∧ HandD h ∧ acc.length = i ∧ ∀ x, x ∈ acc → Th (m + 1) (nb m) x) ⟨h2, rfl, hh2, rfl, by simp⟩ ?_ ?_
      · clear hh2
        rintro i acc E hi ⟨h, rfl, hh, hl, hs⟩
        have em : ((m + 1 : Nat) : Int) - 1 = (m : Nat) := by omega
        walk_at "go em"
        refine call_by (ih n (by omega) (by omega) hh) ?_
        rintro d bs ⟨h3, hd, rfl, hh3⟩
        walk_at "go"
        refine ⟨h3, rfl, hh3, by simp [hl], fun x hx => ?_⟩
        rcases List.mem_append.mp hx with hx | hx
        · exact hs x hx
        · cases List.mem_singleton.mp hx; exact hd
      · rintro acc E2 ⟨h3, rfl, hh3, hl, hs⟩
        walk_at "go"
        have hz := ndL_le (b := nb m) (ds := acc) fun x hx => (hs x hx).nd
        have hz2 : acc.length * nb m ≤ 3 * nb m := Nat.mul_le_mul_right _ (by omega)
        exact ⟨h3, ⟨.tup _ fun x hx => (hs x hx).pl, by rw [thB, thL_mem]; exact fun x hx => (hs x hx).th, by rw [nd]; omega⟩, rfl, hh3⟩

structure El (n b : Nat) (d : D) : Prop where
  pl : Pl n d
  nd : nd d ≤ b
theorem ok_0 : PyData.strOk "0" = true := by decide +kernel
theorem ok_ab : PyData.strOk "ab" = true := by decide +kernel
theorem ok_a : PyData.strOk "a" = true := by decide +kernel
theorem ok_em : PyData.strOk "" = true := by decide +kernel
theorem e_hearing {k : Nat} : sem_Hearing___init__ [.bor k (.ins 1 [] []), .fz (.raw 0)] = .val .non [.bor k (.ins 1 ["hearing"] [.raw 0]), .no] := by
  refine fn_eq ?_
  walk_at "go body_Hearing___init__"
  rfl
theorem e_empty {k : Nat} : sem_Faults___init__ [.bor k (.ins 0 [] []), .fz (.tup []), .fz (.tup [])] = .val .non [.bor k (.ins 0 ["lost", "turned"] [.tup [], .tup []]), .no, .no] :=
  e_init_ok (n := 1) (gs := []) (ts := []) ⟨List.Pairwise.nil, by simp⟩ ⟨List.Pairwise.nil, by simp⟩ (.tup [] (by simp)) (.tup [] (by simp)) (by simp [nd, ndL]) (by simp [nd, ndL])
theorem odd_ok {h : D} {k : Nat} (hh : HandD h) : wpF (sem__law_odd [.bor k h]) (fun d bs => ∃ h', El 40 90 d ∧ bs = [.bor k h'] ∧ HandD h') := by
  have l0 : (0 : Nat) ≤ sizeLine := sl16 (by omega)
  have l1 : (1 : Nat) ≤ sizeLine := sl16 (by omega)
  have l2 : (2 : Nat) ≤ sizeLine := sl16 (by omega)
  have l3 : (3 : Nat) ≤ sizeLine := sl16 (by omega)
  have l30 : (30 : Nat) ≤ sizeLine := sl16 (by omega)
  have e1 : sem__law_wrapped [.fz .non, .fz (.int 36), .fz (.int 0)] = _ := e_wrap0 (n := 36) .non (by omega)
  have e2 : sem__law_wrapped [.fz .non, .fz (.int 36), .fz (.int 1)] = _ := e_wrap1 (n := 36) .non (by omega)
  have e3 : sem__law_wrapped [.fz (.lst []), .fz (.int 34), .fz (.int 0)] = _ := e_wrap0 (n := 34) (.lst []) (by omega)
  have e4 : sem__law_wrapped [.fz (.int 0), .fz (.int 34), .fz (.int 0)] = _ := e_wrap0 (n := 34) (.int 0) (by omega)
  obtain ⟨w1, v1, _⟩ := wrapT_ok (d := .non) (m := 0) 36 .non
  obtain ⟨w2, v2⟩ := wrapL_ok (d := .non) (m := 0) 36 .non
  obtain ⟨w3, v3, _⟩ := wrapT_ok (d := .lst []) (m := 1) 34 (.lst _ (by simp))
  obtain ⟨w4, v4, _⟩ := wrapT_ok (d := .int 0) (m := 0) 34 (.int _)
  have e5 := e_empty (k := 0)
  have e6 := e_hearing (k := 0)
  generalize Nat.repeat (fun d => D.tup [d]) 36 D.non = x1 at e1 w1 v1
  generalize Nat.repeat (fun d => D.lst [d]) 36 D.non = x2 at e2 w2 v2
  generalize Nat.repeat (fun d => D.tup [d]) 34 (D.lst []) = x3 at e3 w3 v3
  generalize Nat.repeat (fun d => D.tup [d]) 34 (D.int 0) = x4 at e4 w4 v4
  simp only [nd, ndL] at v1 v2 v3 v4
  refine fn_run ?_
  walk_at "go body__law_odd p19 l0 l1 l2 l3 l30 e1 e2 e3 e4 e5 e6"
  refine call_by (some_of (P := El 40 90) hh (by simp) (by simp) fun d hd => ?_) ?_
  · have two : ∀ {a b : D}, El 38 40 a → El 38 40 b → El 40 90 (.tup [a, b]) := fun {a b} ha hb =>
      ⟨.tup _ (by simp; exact ⟨ha.pl.up (by omega), hb.pl.up (by omega)⟩), by have := ha.nd; have := hb.nd; simp only [nd, ndL]; omega⟩
    have int_ : ∀ i : Int, El 38 40 (.int i) := fun i => ⟨.int i, by simp [nd]⟩
    simp only [List.mem_cons, List.not_mem_nil, or_false] at hd
    rcases hd with rfl | rfl | rfl | rfl | rfl | rfl | rfl | rfl | rfl | rfl | rfl | rfl | rfl | rfl | rfl | rfl | rfl | rfl | rfl | rfl | rfl | rfl | rfl | rfl | rfl | rfl | rfl | rfl | rfl | rfl
    · exact ⟨.non, by simp [nd]⟩
    · exact ⟨.bl _, by simp [nd]⟩
    · exact ⟨.bl _, by simp [nd]⟩
    · exact ⟨.int _, by simp [nd]⟩
    · exact ⟨.int _, by simp [nd]⟩
    · exact ⟨.int _, by simp [nd]⟩
    · exact ⟨.int _, by simp [nd]⟩
    · exact ⟨.int _, by simp [nd]⟩
    · exact ⟨.str _ ok_0, by simp [nd]⟩
    · exact ⟨.tup _ (by simp), by simp [nd, ndL]⟩
    · exact ⟨.lst _ (by simp), by simp [nd, ndL]⟩
    · exact ⟨.lst _ (by intro d hd; cases List.mem_singleton.mp hd; exact .int _), by simp [nd, ndL]⟩
    · exact ⟨.tup _ (by intro d hd; cases List.mem_singleton.mp hd; exact .int _), by simp [nd, ndL]⟩
    · exact two (int_ _) (int_ _)
    · exact ⟨.tup _ (by simp; exact .int _), by simp [nd, ndL]⟩
    · exact ⟨.emp, by simp [nd]⟩
    · exact ⟨.str _ ok_ab, by simp [nd]⟩
    · exact two (int_ _) ⟨.lst _ (by simp), by simp [nd, ndL]⟩
    · exact two (int_ _) ⟨.emp, by simp [nd]⟩
    · exact ⟨.lst _ (by simp; exact .int _), by simp [nd, ndL]⟩
    · exact two ⟨.bl _, by simp [nd]⟩ (int_ _)
    · exact two (int_ _) (int_ _)
    · exact two (int_ _) (int_ _)
    · exact ⟨w1.up (by omega), by omega⟩
    · exact ⟨w2.up (by omega), by omega⟩
    · exact two (int_ _) ⟨w3.up (by omega), by omega⟩
    · exact two (int_ _) ⟨w4.up (by omega), by omega⟩
    · exact ⟨.ins _ _ _, by simp [nd]⟩
    · exact two (int_ _) ⟨.ins _ _ _, by simp [nd]⟩
    · exact two (int_ _) ⟨.tup _ (by simp; exact ⟨.str _ ok_a, .ins _ _ _⟩), by simp [nd, ndL]⟩
  · rintro d bs ⟨h', hd, rfl, hh'⟩
    walk_at "go"
    exact ⟨_, hd, rfl, hh'⟩
def Els (n b : Nat) (ds : List D) : Prop := ∀ d, d ∈ ds → El n b d
theorem Els.ins {n b : Nat} {ds : List D} {i : Nat} {x : D} (p : Els n b ds) (px : El n b x) : Els n b (ds.take i ++ [x] ++ ds.drop i) := fun d hd => by
  rcases List.mem_append.mp hd with hd | hd
  · rcases List.mem_append.mp hd with hd | hd
    · exact p d (List.mem_of_mem_take hd)
    · exact List.mem_singleton.mp hd ▸ px
  · exact p d (List.mem_of_mem_drop hd)
theorem ins_len {ds : List D} {i : Nat} {x : D} : (ds.take i ++ [x] ++ ds.drop i).length = ds.length + 1 := by
  simp only [List.length_append, List.length_take, List.length_drop, List.length_singleton]; omega
theorem Els.set {n b : Nat} {ds : List D} {i : Nat} {x : D} (p : Els n b ds) (px : El n b x) : Els n b (ds.set i x) := fun d hd => by
  rcases List.mem_or_eq_of_mem_set hd with h | h
  · exact p d h
  · exact h ▸ px
theorem El.up {n b n2 b2 : Nat} {d : D} (h : El n b d) (h1 : n ≤ n2) (h2 : b ≤ b2) : El n2 b2 d := ⟨h.pl.up h1, Nat.le_trans h.nd h2⟩
theorem someT_of {h : D} {k : Nat} {xs : List D} {P : D → Prop} (hh : HandD h) (h0 : 0 < xs.length) (h1 : xs.length ≤ 1000000) (hP : ∀ d, d ∈ xs → P d) : wpF (sem__law_some [.bor k h, .fz (.tup xs)]) (fun d bs => ∃ h', P d ∧ bs = [.bor k h', .no] ∧ HandD h') := by
  have hs : xs.length ≤ sizeLine := sl16 h1
  refine fn_run ?_
  walk_at "go body__law_some hs"
  refine call_by (draw_ok hh (by omega) (by omega)) ?_
  rintro d bs ⟨r, h', rfl, rfl, hh', r0, r1⟩
  obtain ⟨x, hx⟩ : ∃ x, xs[r.toNat]? = some x := ⟨_, List.getElem?_eq_getElem (by omega)⟩
  have gx : atI xs r = some x := atI_get r0 hx
  walk_at "go gx"
  exact ⟨h', hP x (List.mem_of_getElem? hx), rfl, hh'⟩
theorem spoilt_ok {h : D} {k : Nat} {ds es : List D} (hh : HandD h) (p : Els 42 100 ds) (q : Els 38 90 es) (h1 : ds.length ≤ 200) (h2 : es.length ≤ 200) :
    wpF (sem__law_spoilt [.bor k h, .fz (.tup ds), .fz (.tup es)]) (fun d bs => ∃ ds' h', d = .tup ds' ∧ bs = [.bor k h', .no, .no] ∧ HandD h' ∧ ds'.length ≤ ds.length + 1 ∧ Els 42 100 ds') := by
  have hs : ds.length ≤ sizeLine := sl16 (by omega)
  have hs2 : ds.length < sizeLine := by have := sl16 (n := 201) (by omega); omega
  have hes : es.length ≤ sizeLine := sl16 (by omega)
  have l0 : (0 : Nat) ≤ sizeLine := sl16 (by omega)
  have l2 : (2 : Nat) ≤ sizeLine := sl16 (by omega)
  have el : oList [.tup ds] = some (.lst ds) := rfl
  refine fn_run ?_
  unfold body__law_spoilt
  refine seq_cut (fun E => ∃ h' at', E = [.bor k h', .fz (.tup ds), .fz (.tup es), .own (.lst ds), .fz (.int at'), .no, .no] ∧ HandD h' ∧ 0 ≤ at' ∧ at' ≤ ds.length) ?_ ?_
  · walk_at "go el hs"
    refine call_by (draw_ok hh (by omega) (by omega)) ?_
    rintro d bs ⟨at', h3, rfl, rfl, hh3, a0, a1⟩
    walk_at "go"
    exact ⟨h3, at', rfl, hh3, a0, by omega⟩
  clear hh
  rintro E ⟨h, at', rfl, hh, a0, a1⟩
  refine seq_cut (fun E => ∃ h' kind, E = [.bor k h', .fz (.tup ds), .fz (.tup es), .own (.lst ds), .fz (.int at'), .fz (.int kind), .no] ∧ HandD h') ?_ ?_
  · walk_at "go"
    refine call_by (draw_ok hh (by omega) (by omega)) ?_
    rintro d bs ⟨kind, h3, rfl, rfl, hh3, _, _⟩
    walk_at "go"
    exact ⟨h3, kind, rfl, hh3⟩
  clear hh
  rintro E ⟨h, kind, rfl, hh⟩
  have hp1 : Els 42 100 ds := p
  refine seq_cut (fun E => ∃ h' rows s6, E = [.bor k h', .fz (.tup ds), .fz (.tup es), .own (.lst rows), .fz (.int at'), .fz (.int kind), s6] ∧ HandD h' ∧ rows.length ≤ ds.length + 1 ∧ Els 42 100 rows) ?_ ?_
  · by_cases c0 : kind = 0 ∨ ds.length = 0
    · walk_at "go hs"
      all_goals
        refine call_by (odd_ok hh) ?_
        rintro d bs ⟨h', hd, rfl, hh'⟩
        walk_at "go x_ins hs2"
        exact ⟨h', ds.take at'.toNat ++ [d] ++ ds.drop at'.toNat, _, rfl, hh', by rw [ins_len]; omega, p.ins (hd.up (by omega) (by omega))⟩
    by_cases c1 : kind = 1
    · walk_at "go hs"
      refine call_by (someT_of (P := El 42 100) hh (by omega) (by omega) p) ?_
      rintro d bs ⟨h', hd, rfl, hh'⟩
      walk_at "go x_ins hs2"
      exact ⟨h', ds.take at'.toNat ++ [d] ++ ds.drop at'.toNat, _, rfl, hh', by rw [ins_len]; omega, p.ins hd⟩
    by_cases c2 : kind = 2
    · walk_at "go hs"
      refine call_by (draw_ok hh (by omega) (by omega)) ?_
      rintro d bs ⟨r, h', rfl, rfl, hh', r0, r1⟩
      obtain ⟨x, hx⟩ : ∃ x, ds[r.toNat]? = some x := ⟨_, List.getElem?_eq_getElem (by omega)⟩
      have hpop := x_popAt r0 (by omega) hx
      have hle : (ds.eraseIdx r.toNat).length < sizeLine := Nat.lt_of_le_of_lt (List.length_eraseIdx_le ..) hs2
      have hle2 : (ds.eraseIdx r.toNat).length ≤ ds.length := List.length_eraseIdx_le ..
      have pe : Els 42 100 (ds.eraseIdx r.toNat) := fun d hd => p d (List.mem_of_mem_eraseIdx hd)
      walk_at "go x_ins hpop hle"
      exact ⟨h', (ds.eraseIdx r.toNat).take at'.toNat ++ [x] ++ (ds.eraseIdx r.toNat).drop at'.toNat, _, rfl, hh', by rw [ins_len]; omega, pe.ins (p x (List.mem_of_getElem? hx))⟩
    by_cases c3 : kind = 3 ∧ 0 < es.length
    · walk_at "go hs hes"
      refine call_by (someT_of (P := El 38 90) hh (by omega) (by omega) q) ?_
      rintro d bs ⟨h', hd, rfl, hh'⟩
      have one_none : ∀ d : D, El 38 90 d → El 42 100 (.tup [d, .non]) := fun d hd =>
        ⟨.tup _ (by simp; exact ⟨hd.pl.up (by omega), .non⟩), by have := hd.nd; simp only [nd, ndL]; omega⟩
      have fin : ∀ d : D, El 42 100 d → ∃ h'_1 rows s6, [Sl.bor k h', .fz (.tup ds), .fz (.tup es), .own (.lst (ds.take at'.toNat ++ [d] ++ ds.drop at'.toNat)), .fz (.int at'), .fz (.int kind), s6] = [Sl.bor k h'_1, .fz (.tup ds), .fz (.tup es), .own (.lst rows), .fz (.int at'), .fz (.int kind), s6] ∧ HandD h'_1 ∧ rows.length ≤ ds.length + 1 ∧ Els 42 100 rows := fun d hd =>
        ⟨h', _, Sl.no, rfl, hh', by rw [ins_len]; omega, p.ins hd⟩
      obtain ⟨pd, nd'⟩ := hd
      cases d with
      | tup xs =>
        have hxl := ndL_len xs
        rw [nd] at nd'
        have hxs : xs.length ≤ sizeLine := sl16 (by omega)
        cases xs with
        | nil =>
          have := one_none _ ⟨pd, by rw [nd]; exact nd'⟩
          walk_at "go x_ins hs2 hxs l2 l0"
          exact ⟨h', ds.take at'.toNat ++ [.tup [.tup [], .non]] ++ ds.drop at'.toNat, _, rfl, hh', by rw [ins_len]; omega, p.ins this⟩
        | cons x xs =>
          have hx : El 42 100 x := by
            cases pd with
            | tup _ h => exact ⟨(h x (by simp)).up (by omega), by rw [ndL] at nd'; omega⟩
          have hxs' : xs.length + 1 ≤ sizeLine := hxs
          have hl1 : (((xs.length + 1 : Nat) : Int)) = xs.length + 1 := by omega
          walk_at "go x_ins hs2 hxs' hl1"
          exact ⟨h', ds.take at'.toNat ++ [x] ++ ds.drop at'.toNat, _, rfl, hh', by rw [ins_len]; omega, p.ins hx⟩
      | _ =>
        first
          | (cases pd; done)
          | (have := one_none _ ⟨pd, nd'⟩
             walk_at "go x_ins hs2 l2"
             exact ⟨h', ds.take at'.toNat ++ [.tup [_, .non]] ++ ds.drop at'.toNat, _, rfl, hh', by rw [ins_len]; omega, p.ins this⟩)
    · walk_at "go hs hes"
      all_goals
        refine call_by (odd_ok hh) ?_
        rintro d bs ⟨h', hd, rfl, hh'⟩
        walk_at "go hs"
        refine call_by (draw_ok hh' (by omega) (by omega)) ?_
        rintro d2 bs ⟨r, h2, rfl, rfl, hh2, r0, r1⟩
        have ix : ixN ds.length r = some r.toNat := ixN_pos r0 r1
        walk_at "go ix"
        exact ⟨h2, ds.set r.toNat d, _, rfl, hh2, by rw [List.length_set]; omega, p.set (hd.up (by omega) (by omega))⟩
  · rintro E ⟨h', rows, s6, rfl, hh', hl, hp⟩
    have hr : rows.length ≤ sizeLine := sl16 (by omega)
    walk_at "go hr"
    exact ⟨rows, h', rfl, rfl, hh', hl, hp⟩


structure Cx (gs : List Int) (ts : List (Int × D)) : Prop where
  lo : LotOk gs
  tu : TurnsOk gs ts
  gl : gs.length ≤ 60
  tl : ts.length ≤ 60
  th : ∀ p, p ∈ ts → Th 33 53 p.2
section
variable {gs : List Int} {ts : List (Int × D)}
theorem Cx.elG (c : Cx gs ts) : Els 38 90 (gs.map .int) := fun d hd => by
  obtain ⟨x, _, rfl⟩ := List.mem_map.mp hd
  exact ⟨.int _, by simp [nd]⟩
theorem Cx.elT (c : Cx gs ts) : Els 38 90 (ts.map tD) := fun d hd => by
  obtain ⟨x, hx, rfl⟩ := List.mem_map.mp hd
  have := c.th x hx
  refine ⟨.tup _ (by simp; exact ⟨.int _, this.pl.up (by omega)⟩), ?_⟩
  have := this.nd
  simp only [tD, nd, ndL]; omega
theorem Els.pl {n b : Nat} {ds : List D} (h : Els n b ds) : Pl (n + 1) (.tup ds) := .tup _ fun d hd => (h d hd).pl
theorem Els.nd {n b m : Nat} {ds : List D} (h : Els n b ds) (hl : ds.length ≤ m) : nd (.tup ds) ≤ m * b + 1 := by
  have h1 := ndL_le (b := b) (ds := ds) fun d hd => (h d hd).nd
  have h2 : ds.length * b ≤ m * b := Nat.mul_le_mul_right _ hl
  rw [Law.nd]; omega
theorem Els.up {n b n2 b2 : Nat} {ds : List D} (h : Els n b ds) (h1 : n ≤ n2) (h2 : b ≤ b2) : Els n2 b2 ds := fun d hd => (h d hd).up h1 h2
theorem Cx.plG (c : Cx gs ts) : Pl 39 (.tup (gs.map .int)) := c.elG.pl
theorem Cx.plT (c : Cx gs ts) : Pl 39 (.tup (ts.map tD)) := c.elT.pl
theorem Cx.ndG (c : Cx gs ts) : Law.nd (.tup (gs.map .int)) ≤ 6000 := by
  have := c.elG.nd (m := 60) (by rw [List.length_map]; exact c.gl); omega
theorem Cx.ndT (c : Cx gs ts) : Law.nd (.tup (ts.map tD)) ≤ 6000 := by
  have := c.elT.nd (m := 60) (by rw [List.length_map]; exact c.tl); omega
theorem Cx.twin (c : Cx gs ts) : Cx gs (ts.map twT) := by
  refine ⟨c.lo, ⟨?_, fun p hp => ?_⟩, c.gl, by rw [List.length_map]; exact c.tl, fun p hp => ?_⟩
  · refine List.pairwise_map.mpr ?_
    exact c.tu.up
  · obtain ⟨q, hq, rfl⟩ := List.mem_map.mp hp
    have := c.tu.ok q hq
    exact ⟨this.1, (tw_ok (c.th q hq).pl this.2.1).2.1, this.2.2⟩
  · obtain ⟨q, hq, rfl⟩ := List.mem_map.mp hp
    have h := c.th q hq
    obtain ⟨a, b, e⟩ := tw_ok h.pl h.th
    exact ⟨a, b, by show Law.nd (twD q.2) ≤ 53; rw [e]; exact h.nd⟩
theorem Cx.tail (c : Cx gs ts) : Cx gs (ts.drop 1) := ⟨c.lo, ⟨c.tu.up.sublist (List.drop_sublist ..), fun p hp => c.tu.ok p (List.mem_of_mem_drop hp)⟩, c.gl, by rw [List.length_drop]; have := c.tl; omega, fun p hp => c.th p (List.mem_of_mem_drop hp)⟩
theorem Cx.init (c : Cx gs ts) : Cx gs.dropLast ts := ⟨⟨c.lo.up.sublist (List.dropLast_sublist ..), fun x hx => c.lo.bd x (List.dropLast_subset _ hx)⟩, ⟨c.tu.up, fun p hp => by
    obtain ⟨a, b, e⟩ := c.tu.ok p hp
    exact ⟨a, b, fun h => e (List.dropLast_subset _ h)⟩⟩, by rw [List.length_dropLast]; have := c.gl; omega, c.tl, c.th⟩
theorem Cx.new (c : Cx gs ts) {k : Nat} : sem_Faults___init__ [.bor k (.ins 0 [] []), .fz (.tup (gs.map .int)), .fz (.tup (ts.map tD))] = .val .non [.bor k (fD gs ts), .no, .no] :=
  e_init_ok c.lo c.tu c.plG c.plT (by have := c.ndG; omega) (by have := c.ndT; omega)
end
theorem e_lear {th : D} (l : Int) (h : Th 3 22 th) : ∃ x, sem__law_ear [.fz (.int l), .fz th] = .val x [.no, .no] ∧ sem__law_is 50 [.fz x, .fz x] = .val (.bl true) [.no, .no] := by
  have l0 : (0 : Nat) ≤ sizeLine := sl16 (by omega)
  have l1 : (1 : Nat) ≤ sizeLine := sl16 (by omega)
  have l2 : (2 : Nat) ≤ sizeLine := sl16 (by omega)
  have hn := h.nd
  by_cases hl : l % 3 = 0
  · refine ⟨.tup [], ?_, IsT.up (m := 1) (.tup _ (by simp)) rfl (by simp [nd, ndL]) (by omega)⟩
    have hb : (l % 3 == 0) = true := by simpa using hl
    refine fn_eq ?_
    walk_at "go body__law_ear hb l0"
  · refine ⟨.tup [.tup [.int l, th]], ?_, IsT.up (m := 5) (.tup _ (by simp; exact .tup _ (by simp; exact ⟨.int _, h.pl⟩))) (by simp [thB, thL, h.th]) (by simp only [nd, ndL]; omega) (by omega)⟩
    have hb : (l % 3 == 0) = false := by simpa using hl
    refine fn_eq ?_
    walk_at "go body__law_ear hb l1 l2"
theorem e_hear_ear {l : Int} {th x : D} (h : sem__law_ear [.fz (.int l), .fz th] = .val x [.no, .no]) : sem_Hearing_ear [.fz (.ins 1 ["hearing"] [.raw 0]), .fz (.int l), .fz th] = .val x [.no, .no, .no] := by
  have lk : lookD "hearing" ["hearing"] [D.raw 0] = some (.raw 0) := rfl
  refine fn_eq ?_
  walk_at "go body_Hearing_ear lk h"
theorem cut_last {α : Type} {xs : List α} : cutL xs none (some (-1)) = xs.dropLast := by
  unfold cutL
  rw [HT.sIx_none, List.drop_zero, List.dropLast_eq_take]
  congr 1
  unfold HT.sIx
  simp only
  split <;> omega
theorem dropLast_map' {α β : Type} {f : α → β} {xs : List α} : (xs.map f).dropLast = xs.dropLast.map f := by
  rw [List.dropLast_eq_take, List.dropLast_eq_take, List.map_take, List.length_map]
theorem e_law {ns : List Int} (hn : ns.length ≤ 63) : wpF (sem_law [.fz (.scr ns)]) (fun d _ => d = .bl true) := by
  have l0 : (0 : Nat) ≤ sizeLine := sl16 (by omega)
  have l1 : (1 : Nat) ≤ sizeLine := sl16 (by omega)
  have l2 : (2 : Nat) ≤ sizeLine := sl16 (by omega)
  have l3 : (3 : Nat) ≤ sizeLine := sl16 (by omega)
  have l4 : (4 : Nat) ≤ sizeLine := sl16 (by omega)
  have l6 : (6 : Nat) ≤ sizeLine := sl16 (by omega)
  have h60 : itR [.int 60] = some (rangeD 0 60) := itR_nat (n := 60) (by omega)
  refine fn_run ?_
  unfold body_law
  refine seq_cut (fun E => ∃ h, E = [.fz (.scr ns), .own h, .no, .no, .no, .no, .no, .no, .no, .no, .no, .no, .no, .no, .no, .no] ∧ HandD h) ?_ ?_
  · walk_at "go"
    refine call_byN (hand_ok hn) ?_
    rintro h bs ⟨hh, rfl⟩
    walk_at "go"
    exact ⟨_, rfl, hh⟩
  rintro E ⟨h, rfl, hh⟩
  refine seq_cut (fun E => ∃ (h : D) (share : Int), E = [.fz (.scr ns), .own h, .fz (.int share), .no, .no, .no, .no, .no, .no, .no, .no, .no, .no, .no, .no, .no] ∧ HandD h ∧ 2 ≤ share ∧ share ≤ 60) ?_ ?_
  · walk_at "go l4"
    refine call_by (some_of (P := fun d => ∃ i : Int, d = .int i ∧ 2 ≤ i ∧ i ≤ 60) hh (by simp) (by simp) fun d hd => ?_) ?_
    · simp only [List.mem_cons, List.not_mem_nil, or_false] at hd
      rcases hd with rfl | rfl | rfl | rfl <;> exact ⟨_, rfl, by omega, by omega⟩
    rintro d bs ⟨h', ⟨i, rfl, i0, i1⟩, rfl, hh'⟩
    walk_at "go"
    exact ⟨_, _, rfl, hh', i0, i1⟩
  clear hh
  rintro E ⟨h, share, rfl, hh, sh0, sh1⟩
  refine seq_cut (fun E => ∃ (h : D) (fs : List Int), E = [.fz (.scr ns), .own h, .fz (.int share), .fz (.lst (fs.map .int)), .no, .no, .no, .no, .no, .no, .no, .no, .no, .no, .no, .no] ∧ HandD h ∧ fs.length = 60) ?_ ?_
  · walk_at "go h60"
    refine lc_rng (sl16 (by omega)) (fun i acc E => ∃ (h : D) (fs : List Int), acc = List.map D.int fs ∧ E = [.fz (.scr ns), .own h, .fz (.int share), .no, .no, .no, .no, .no, .no, .no, .no, .no, .no, .no, .no, .no] ∧ HandD h ∧ fs.length = i) ⟨h, [], rfl, rfl, hh, rfl⟩ ?_ ?_
    · clear hh
      rintro i acc E hi ⟨h, fs, rfl, rfl, hh, hl⟩
      walk_at "go"
      refine call_by (draw_ok hh (by omega) (by omega)) ?_
      rintro d bs ⟨r, h2, rfl, rfl, hh2, r0, r1⟩
      walk_at "go"
      exact ⟨h2, fs ++ [r], by simp, rfl, hh2, by simp [hl]⟩
    · rintro acc E2 ⟨h, fs, rfl, rfl, hh, hl⟩
      walk_at "go"
      exact ⟨h, fs, rfl, hh, hl⟩
  clear hh
  rintro E ⟨h, fs, rfl, hh, hfs⟩
  refine seq_cut (fun E => ∃ gs : List Int, E = [.fz (.scr ns), .own h, .fz (.int share), .fz (.lst (fs.map .int)), .fz (.tup (gs.map .int)), .no, .no, .no, .no, .no, .no, .no, .no, .no, .no, .no] ∧ LotOk gs ∧ gs.length ≤ 60 ∧ ∀ x, x ∈ gs → fs[x.toNat]? = some 0) ?_ ?_
  · walk_at "go h60"
    refine lc_rng (sl16 (by omega)) (fun i acc E => ∃ gs : List Int, acc = List.map D.int gs ∧ E = [.fz (.scr ns), .own h, .fz (.int share), .fz (.lst (fs.map .int)), .no, .no, .no, .no, .no, .no, .no, .no, .no, .no, .no, .no] ∧ LotOk gs ∧ gs.length ≤ i ∧ (∀ x, x ∈ gs → fs[x.toNat]? = some 0) ∧ ∀ x, x ∈ gs → x < i) ⟨[], rfl, rfl, ⟨List.Pairwise.nil, by simp⟩, Nat.le_refl _, by simp, by simp⟩ ?_ ?_
    · rintro i acc E hi ⟨gs, rfl, rfl, lo, hl, hz, hlt⟩
      have gx : atI (fs.map D.int) (i : Int) = some (.int fs[i]) := by rw [atI_nat', List.getElem?_map, List.getElem?_eq_getElem (by omega)]; rfl
      walk_at "go gx"
      · rename_i h0
        refine ⟨gs ++ [(i : Int)], by simp, ⟨List.pairwise_append.mpr ⟨lo.up, List.pairwise_singleton .., fun a ha b hb => ?_⟩, fun x hx => ?_⟩, by simp; omega, fun x hx => ?_, fun x hx => ?_⟩
        · cases List.mem_singleton.mp hb; exact hlt a ha
        · rcases List.mem_append.mp hx with hx | hx
          · exact lo.bd x hx
          · cases List.mem_singleton.mp hx; omega
        · rcases List.mem_append.mp hx with hx | hx
          · exact hz x hx
          · cases List.mem_singleton.mp hx
            rw [show ((i : Int)).toNat = i from rfl, List.getElem?_eq_getElem (by omega), h0]
        · rcases List.mem_append.mp hx with hx | hx
          · have := hlt x hx; omega
          · cases List.mem_singleton.mp hx; omega
      · exact ⟨gs, rfl, lo, by omega, hz, fun x hx => by have := hlt x hx; omega⟩
    · rintro acc E2 ⟨gs, rfl, rfl, lo, hl, hz, _⟩
      walk_at "go"
      exact ⟨gs, rfl, lo, hl, hz⟩
  rintro E ⟨gs, rfl, lo, hgl, hgz⟩
  refine seq_cut (fun E => E = [.fz (.scr ns), .own h, .fz (.int share), .fz (.lst (fs.map .int)), .fz (.tup (gs.map .int)), .own (.lst []), .no, .no, .no, .no, .no, .no, .no, .no, .no, .no]) ?_ ?_
  · walk_at "go l0"
  rintro E rfl
  refine seq_cut (fun E => ∃ (h : D) (ts : List (Int × D)) (s6 : Sl), E = [.fz (.scr ns), .own h, .fz (.int share), .fz (.lst (fs.map .int)), .fz (.tup (gs.map .int)), .own (.lst (ts.map tD)), s6, .no, .no, .no, .no, .no, .no, .no, .no, .no] ∧ HandD h ∧ Cx gs ts) ?_ ?_
  · walk_at "go h60"
    refine for_rng (fun i E => ∃ (h : D) (ts : List (Int × D)) (s6 : Sl), E = [.fz (.scr ns), .own h, .fz (.int share), .fz (.lst (fs.map .int)), .fz (.tup (gs.map .int)), .own (.lst (ts.map tD)), s6, .no, .no, .no, .no, .no, .no, .no, .no, .no] ∧ HandD h ∧ Cx gs ts ∧ ts.length ≤ i ∧ ∀ p, p ∈ ts → p.1 < i) ⟨h, [], _, rfl, hh, ⟨lo, ⟨List.Pairwise.nil, by simp⟩, hgl, by simp, by simp⟩, Nat.le_refl _, by simp⟩ ?_ ?_
    · clear hh
      rintro i E hi ⟨h, ts, s6, rfl, hh, cx, hl, hlt⟩
      have gx : atI (fs.map D.int) (i : Int) = some (.int fs[i]) := by rw [atI_nat', List.getElem?_map, List.getElem?_eq_getElem (by omega)]; rfl
      by_cases h1 : fs[i] = 1
      · have hb : (fs[i] == 1) = true := by simpa using h1
        walk_at "go gx hb"
        refine call_by (thing_ok 2 4 (by omega) (by omega) hh) ?_
        rintro d bs ⟨h2, hd, rfl, hh2⟩
        walk_at "go l4"
        refine call_by (some_of (P := fun d => d = .int (0 : Nat) ∨ d = .int (30 : Nat)) hh2 (by simp) (by simp) fun d hd => ?_) ?_
        · simp only [List.mem_cons, List.not_mem_nil, or_false] at hd
          rcases hd with rfl | rfl | rfl | rfl <;> first | exact .inl rfl | exact .inr rfl
        rintro d2 bs ⟨h3, hd2, rfl, hh3⟩
        have key : ∀ n : Nat, n ≤ 30 → Th 33 53 (Nat.repeat (fun d => .tup [d]) n d) := fun n hn => by
          obtain ⟨w1, w2, w3⟩ := wrapT_ok (d := d) n hd.pl
          have := hd.nd
          have hnb : nb 2 = 22 := rfl
          exact ⟨w1.up (by omega), by rw [w3]; exact hd.th, by omega⟩
        have fin : ∀ x : D, Th 33 53 x → Cx gs (ts ++ [((i : Int), x)]) ∧ (ts ++ [((i : Int), x)]).length ≤ i + 1 ∧ ∀ p, p ∈ ts ++ [((i : Int), x)] → p.1 < ((i + 1 : Nat) : Int) := fun x hx => by
          refine ⟨⟨lo, ⟨List.pairwise_append.mpr ⟨cx.tu.up, List.pairwise_singleton .., fun a ha b hb => ?_⟩, fun p hp => ?_⟩, hgl, by simp; omega, fun p hp => ?_⟩, by simp; omega, fun p hp => ?_⟩
          · cases List.mem_singleton.mp hb; exact hlt a ha
          · rcases List.mem_append.mp hp with hp | hp
            · exact cx.tu.ok p hp
            · cases List.mem_singleton.mp hp
              refine ⟨by simp only; omega, hx.th, fun hg => ?_⟩
              have := hgz _ hg
              simp only [show ((i : Int)).toNat = i from rfl, List.getElem?_eq_getElem (show i < fs.length by omega), h1] at this
              cases this
          · rcases List.mem_append.mp hp with hp | hp
            · exact cx.th p hp
            · cases List.mem_singleton.mp hp; exact hx
          · rcases List.mem_append.mp hp with hp | hp
            · have := hlt p hp; omega
            · cases List.mem_singleton.mp hp; simp only; omega
        have hln : (ts.map tD).length < sizeLine := by rw [List.length_map]; have := sl16 (n := 61) (by omega); omega
        rcases hd2 with rfl | rfl
        · have e1 : sem__law_wrapped [.fz d, .fz (.int 0), .fz (.int 0)] = _ := e_wrap0 (n := 0) d (by omega)
          obtain ⟨f1, f2, f3⟩ := fin _ (key 0 (by omega))
          walk_at "go e1 l2 hln x_app"
          exact ⟨h3, _, _, by rw [List.map_append]; rfl, hh3, f1, f2, f3⟩
        · have e1 : sem__law_wrapped [.fz d, .fz (.int 30), .fz (.int 0)] = _ := e_wrap0 (n := 30) d (by omega)
          obtain ⟨f1, f2, f3⟩ := fin _ (key 30 (by omega))
          walk_at "go e1 l2 hln x_app"
          exact ⟨h3, _, _, by rw [List.map_append]; rfl, hh3, f1, f2, f3⟩
      · have hb : (fs[i] == 1) = false := by simpa using h1
        walk_at "go gx hb"
        exact ⟨h, ts, _, rfl, hh, cx, by omega, fun p hp => by have := hlt p hp; omega⟩
    · rintro E ⟨h, ts, s6, rfl, hh, cx, _, _⟩
      exact ⟨h, ts, s6, rfl, hh, cx⟩
  clear hh
  rintro E ⟨h, ts, s6, rfl, hh, cx⟩
  have hbG := cx.ndG
  have hbT := cx.ndT
  have hts : (ts.map tD).length ≤ sizeLine := by rw [List.length_map]; have := cx.tl; exact sl16 (by omega)
  have hgs : (gs.map D.int).length ≤ sizeLine := by rw [List.length_map]; exact sl16 (by omega)
  refine seq_cut (fun E => E = [.fz (.scr ns), .own h, .fz (.int share), .fz (.lst (fs.map .int)), .fz (.tup (gs.map .int)), .fz (.tup (ts.map tD)), s6, .no, .no, .no, .no, .no, .no, .no, .no, .no]) ?_ ?_
  · walk_at "go hts"
  rintro E rfl
  refine seq_cut (fun E => E = [.fz (.scr ns), .own h, .fz (.int share), .fz (.lst (fs.map .int)), .fz (.tup (gs.map .int)), .fz (.tup (ts.map tD)), s6, .no, .no, .no, .no, .no, .no, .no, .no, .no]) ?_ ?_
  · have e1 := e_made (by omega) cx.plG cx.plT (by omega) (by omega)
    rw [part_ok lo cx.tu] at e1
    have e2 := oNe_self ok_let
    walk_at "go e1 e2"
  rintro E rfl
  refine seq_cut (fun E => ∃ (h : D) (th : D), E = [.fz (.scr ns), .own h, .fz (.int share), .fz (.lst (fs.map .int)), .fz (.tup (gs.map .int)), .fz (.tup (ts.map tD)), s6, .fz (fD gs ts), .fz th, .no, .no, .no, .no, .no, .no, .no] ∧ HandD h ∧ Th 3 22 th) ?_ ?_
  · have e1 := cx.new (k := 0)
    unfold fD at e1 ⊢
    walk_at "go e1"
    refine call_by (thing_ok 2 4 (by omega) (by omega) hh) ?_
    rintro d bs ⟨h2, hd, rfl, hh2⟩
    walk_at "go"
    exact ⟨h2, d, rfl, hh2, hd⟩
  clear hh
  rintro E ⟨h, th, rfl, hh, hth⟩
  have hth2 := hth.nd
  refine seq_cut (fun E => ∃ s9 : Sl, E = [.fz (.scr ns), .own h, .fz (.int share), .fz (.lst (fs.map .int)), .fz (.tup (gs.map .int)), .fz (.tup (ts.map tD)), s6, .fz (fD gs ts), .fz th, s9, .no, .no, .no, .no, .no, .no]) ?_ ?_
  · have e1 := e_twin (n := 50) hth.pl hth.th (by omega) (by omega)
    obtain ⟨t1, t2, t3⟩ := tw_ok hth.pl hth.th
    walk_at "go e1 l3"
    refine for_ds (fun r E => ∃ s9 : Sl, E = [.fz (.scr ns), .own h, .fz (.int share), .fz (.lst (fs.map .int)), .fz (.tup (gs.map .int)), .fz (.tup (ts.map tD)), s6, .fz (fD gs ts), .fz th, s9, .no, .no, .no, .no, .no, .no] ∧ ∀ x, x ∈ r → Th 3 22 x) ⟨_, rfl, fun x hx => ?_⟩ ?_ ?_
    · simp only [List.mem_cons, List.not_mem_nil, or_false] at hx
      rcases hx with rfl | rfl | rfl
      · exact hth
      · exact ⟨t1, t2, by omega⟩
      · exact hth
    · rintro x r E ⟨s9, rfl, hr⟩
      have hx := hr x (by simp)
      have hx2 := hx.nd
      have e2 := e_hears (n := 39) (by omega) cx.tu cx.plT (hx.pl.up (by omega)) hx.th (by omega) (by omega)
      walk_at "go e2"
      exact ⟨_, rfl, fun y hy => hr y (by simp [hy])⟩
    · rintro E ⟨s9, rfl, _⟩
      exact ⟨s9, rfl⟩
  rintro E ⟨s9, rfl⟩
  refine seq_cut (fun E => ∃ s9 : Sl, E = [.fz (.scr ns), .own h, .fz (.int share), .fz (.lst (fs.map .int)), .fz (.tup (gs.map .int)), .fz (.tup (ts.map tD)), s6, .fz (fD gs ts), .fz th, s9, .no, .no, .no, .no, .no, .no]) ?_ ?_
  · have hm : (ts.map fun p => tD (twT p)) = (ts.map twT).map tD := by rw [List.map_map]; rfl
    have e1 := cx.twin.new (k := 0)
    have q1 := e_eq (gs := gs) (gs2 := gs) (eqT_tw cx.plT (fun q hq => (cx.th q hq).th) (by omega))
    rw [show (decide (gs = gs) && true) = true by simp] at q1
    have q2 := e_eqT (gs := gs) (ts := ts) [.tup (gs.map .int), .tup (ts.map tD)]
    unfold fD at e1 q1 q2 ⊢
    rw [← hm] at e1 q1
    walk_at "go"
    refine lc_fun (k := tD) (by rw [List.length_map] at hts; exact hts) (fun p => tD (twT p)) (fun p hp => ?_) ?_
    · have h := cx.th p hp
      have h2 := h.nd
      have e2 := e_twin (n := 50) h.pl h.th (by omega) (by omega)
      walk_at "go tD e2 l2"
      rfl
    · have hts2 : (ts.map fun p => tD (twT p)).length ≤ sizeLine := by rw [List.length_map] at hts ⊢; exact hts
      walk_at "go e1 q1 q2 l2 hts2"
      exact ⟨_, rfl⟩
  clear s9
  rintro E ⟨s9, rfl⟩
  refine seq_cut (fun E => E = [.fz (.scr ns), .own h, .fz (.int share), .fz (.lst (fs.map .int)), .fz (.tup (gs.map .int)), .fz (.tup (ts.map tD)), s6, .fz (fD gs ts), .fz th, s9, .no, .no, .no, .no, .no, .no]) ?_ ?_
  · have e1 := cx.tail.new (k := 0)
    have e2 := cx.init.new (k := 0)
    have q1 : ts ≠ [] → sem_Faults___eq__ [.fz (fD gs ts), .fz (fD gs (ts.drop 1))] = .val (.bl false) [.no, .no] := fun hne => by
      have := e_eq (gs := gs) (gs2 := gs) (ts := ts) (ts2 := ts.drop 1) (b := false) (eqT_len cx.plT cx.tail.plT (thB_turns cx.tu) (thB_turns cx.tail.tu) (by omega) (by
        rw [List.length_map, List.length_map, List.length_drop]
        have := List.length_pos_iff.mpr hne; omega))
      rwa [Bool.and_false] at this
    have q2 : gs ≠ [] → sem_Faults___eq__ [.fz (fD gs ts), .fz (fD gs.dropLast ts)] = .val (.bl false) [.no, .no] := fun hne => e_eqD fun e => by
      have := congrArg List.length e
      rw [List.length_dropLast] at this
      have := List.length_pos_iff.mpr hne; omega
    unfold fD at e1 e2 q1 q2 ⊢
    by_cases ht : ts = []
    · have hl1 : ((ts.map tD).length : Int) = 0 := by simp [ht]
      by_cases hg : gs = []
      · have hl2 : ((gs.map D.int).length : Int) = 0 := by simp [hg]
        walk_at "go hts hgs"
      · have hl2 : 0 < ((gs.map D.int).length : Int) := by have := List.length_pos_iff.mpr hg; simpa using this
        have q2 := q2 hg
        walk_at "go hts hgs cut_last dropLast_map' e2 q2"
    · have hl1 : 0 < ((ts.map tD).length : Int) := by have := List.length_pos_iff.mpr ht; simpa using this
      have q1 := q1 ht
      by_cases hg : gs = []
      · have hl2 : ((gs.map D.int).length : Int) = 0 := by simp [hg]
        walk_at "go hts hgs drop_map' e1 q1"
      · have hl2 : 0 < ((gs.map D.int).length : Int) := by have := List.length_pos_iff.mpr hg; simpa using this
        have q2 := q2 hg
        walk_at "go hts hgs drop_map' e1 q1 cut_last dropLast_map' e2 q2"
  rintro E rfl
  have h4 : itR [.int 4] = some (rangeD 0 4) := itR_nat (n := 4) (by omega)
  have big : ∀ {ws : List D}, Els 42 100 ws → ws.length ≤ 70 → El 43 8000 (.tup ws) := fun h hl => ⟨h.pl, by have := h.nd hl; omega⟩
  have okG : Els 42 100 (gs.map D.int) := cx.elG.up (by omega) (by omega)
  have okT : Els 42 100 (ts.map tD) := cx.elT.up (by omega) (by omega)
  have lgG : (gs.map D.int).length ≤ 60 := by rw [List.length_map]; exact hgl
  have lgT : (ts.map tD).length ≤ 60 := by rw [List.length_map]; exact cx.tl
  refine seq_cut (fun E => ∃ (h : D) (s10 s12 s13 s14 : Sl), E = [.fz (.scr ns), .own h, .fz (.int share), .fz (.lst (fs.map .int)), .fz (.tup (gs.map .int)), .fz (.tup (ts.map tD)), s6, .fz (fD gs ts), .fz th, s9, s10, .no, s12, s13, s14, .no] ∧ HandD h) ?_ ?_
  · walk_at "go h4"
    refine for_rng (fun i E => ∃ (h : D) (s10 s12 s13 s14 : Sl), E = [.fz (.scr ns), .own h, .fz (.int share), .fz (.lst (fs.map .int)), .fz (.tup (gs.map .int)), .fz (.tup (ts.map tD)), s6, .fz (fD gs ts), .fz th, s9, s10, .no, s12, s13, s14, .no] ∧ HandD h) ⟨h, _, _, _, _, rfl, hh⟩ ?_ ?_
    · clear hh
      rintro i E hi ⟨h, s10, s12, s13, s14, rfl, hh⟩
      walk_at "tgt"
      refine seq_cut (fun E => E = [.fz (.scr ns), .own h, .fz (.int share), .fz (.lst (fs.map .int)), .fz (.tup (gs.map .int)), .fz (.tup (ts.map tD)), s6, .fz (fD gs ts), .fz th, s9, .fz (.int (0 + (i : Int))), .no, .fz (.tup (gs.map .int)), .fz (.tup (ts.map tD)), s14, .no]) ?_ ?_
      · walk_at "go"
      rintro E rfl
      refine seq_cut (fun E => ∃ (h : D) (kind : Int), E = [.fz (.scr ns), .own h, .fz (.int share), .fz (.lst (fs.map .int)), .fz (.tup (gs.map .int)), .fz (.tup (ts.map tD)), s6, .fz (fD gs ts), .fz th, s9, .fz (.int (0 + (i : Int))), .no, .fz (.tup (gs.map .int)), .fz (.tup (ts.map tD)), .fz (.int kind), .no] ∧ HandD h) ?_ ?_
      · walk_at "go"
        refine call_by (draw_ok hh (by omega) (by omega)) ?_
        rintro d bs ⟨r, h2, rfl, rfl, hh2, r0, r1⟩
        walk_at "go"
        exact ⟨_, _, rfl, hh2⟩
      clear hh
      rintro E ⟨h, kind, rfl, hh⟩
      refine seq_cut (fun E => ∃ (h : D) (bd : List D), E = [.fz (.scr ns), .own h, .fz (.int share), .fz (.lst (fs.map .int)), .fz (.tup (gs.map .int)), .fz (.tup (ts.map tD)), s6, .fz (fD gs ts), .fz th, s9, .fz (.int (0 + (i : Int))), .no, .fz (.tup bd), .fz (.tup (ts.map tD)), .fz (.int kind), .no] ∧ HandD h ∧ Els 42 100 bd ∧ bd.length ≤ 61) ?_ ?_
      · by_cases hk : kind < 2
        · walk_at "go"
          refine call_by (spoilt_ok hh okG cx.elT (by omega) (by omega)) ?_
          rintro d bs ⟨ws, h2, rfl, rfl, hh2, hl, hw⟩
          walk_at "go"
          exact ⟨_, _, rfl, hh2, hw, by omega⟩
        · walk_at "go"
          exact ⟨_, _, rfl, hh, okG, by omega⟩
      clear hh
      rintro E ⟨h, bd, rfl, hh, hbd, lbd⟩
      refine seq_cut (fun E => ∃ (h : D) (wd : List D), E = [.fz (.scr ns), .own h, .fz (.int share), .fz (.lst (fs.map .int)), .fz (.tup (gs.map .int)), .fz (.tup (ts.map tD)), s6, .fz (fD gs ts), .fz th, s9, .fz (.int (0 + (i : Int))), .no, .fz (.tup bd), .fz (.tup wd), .fz (.int kind), .no] ∧ HandD h ∧ Els 42 100 wd ∧ wd.length ≤ 61) ?_ ?_
      · by_cases hk : 0 < kind
        · walk_at "go"
          refine call_by (spoilt_ok hh okT cx.elG (by omega) (by omega)) ?_
          rintro d bs ⟨ws, h2, rfl, rfl, hh2, hl, hw⟩
          walk_at "go"
          exact ⟨_, _, rfl, hh2, hw, by omega⟩
        · walk_at "go"
          exact ⟨_, _, rfl, hh, okT, by omega⟩
      clear hh
      rintro E ⟨h, wd, rfl, hh, hwd, lwd⟩
      refine seq_cut (fun E => ∃ (h : D) (wd : List D), E = [.fz (.scr ns), .own h, .fz (.int share), .fz (.lst (fs.map .int)), .fz (.tup (gs.map .int)), .fz (.tup (ts.map tD)), s6, .fz (fD gs ts), .fz th, s9, .fz (.int (0 + (i : Int))), .no, .fz (.tup bd), .fz (.tup wd), .fz (.int kind), .no] ∧ HandD h ∧ Els 42 100 wd ∧ wd.length ≤ 62) ?_ ?_
      · by_cases hk : kind = 4
        · have hb : (kind == 4) = true := by simpa using hk
          walk_at "go hb"
          refine call_by (spoilt_ok hh hwd cx.elG (by omega) (by omega)) ?_
          rintro d bs ⟨ws, h2, rfl, rfl, hh2, hl, hw⟩
          walk_at "go"
          exact ⟨_, _, rfl, hh2, hw, by omega⟩
        · have hb : (kind == 4) = false := by simpa using hk
          walk_at "go hb"
          exact ⟨_, _, rfl, hh, hwd, by omega⟩
      clear hh hwd lwd wd
      rintro E ⟨h, wd, rfl, hh, hwd, lwd⟩
      refine seq_cut (fun E => ∃ (h : D) (b : D), E = [.fz (.scr ns), .own h, .fz (.int share), .fz (.lst (fs.map .int)), .fz (.tup (gs.map .int)), .fz (.tup (ts.map tD)), s6, .fz (fD gs ts), .fz th, s9, .fz (.int (0 + (i : Int))), .no, .fz b, .fz (.tup wd), .fz (.int kind), .no] ∧ HandD h ∧ El 43 8000 b) ?_ ?_
      · walk_at "go"
        refine call_by (draw_ok hh (by omega) (by omega)) ?_
        rintro d bs ⟨r, h2, rfl, rfl, hh2, r0, r1⟩
        have el : oList [.tup (gs.map D.int)] = some (.lst (gs.map .int)) := rfl
        by_cases hr : r = 0
        · have hb : (r == 0) = true := by simpa using hr
          walk_at "go hb el"
          refine call_by (odd_ok hh2) ?_
          rintro d bs ⟨h3, hd, rfl, hh3⟩
          walk_at "go l6"
          refine call_by (some_of (P := El 43 8000) hh3 (by simp) (by simp) fun d2 hd2 => ?_) ?_
          · simp only [List.mem_cons, List.not_mem_nil, or_false] at hd2
            rcases hd2 with rfl | rfl | rfl | rfl | rfl | rfl
            · have h1 := (big okG (by omega)).nd
              rw [nd] at h1
              exact ⟨.lst _ fun x hx => (okG x hx).pl, by rw [nd]; exact h1⟩
            · exact ⟨.non, by simp [nd]⟩
            · exact ⟨.int _, by simp [nd]⟩
            · exact ⟨.str _ ok_em, by simp [nd]⟩
            · exact ⟨.emp, by simp [nd]⟩
            · exact hd.up (by omega) (by omega)
          rintro d2 bs ⟨h4, hd2, rfl, hh4⟩
          walk_at "go"
          exact ⟨_, _, rfl, hh4, hd2⟩
        · have hb : (r == 0) = false := by simpa using hr
          walk_at "go hb"
          exact ⟨_, _, rfl, hh2, big hbd (by omega)⟩
      clear hh hbd lbd bd
      rintro E ⟨h, b, rfl, hh, hb⟩
      refine seq_cut (fun E => ∃ (h : D) (w : D), E = [.fz (.scr ns), .own h, .fz (.int share), .fz (.lst (fs.map .int)), .fz (.tup (gs.map .int)), .fz (.tup (ts.map tD)), s6, .fz (fD gs ts), .fz th, s9, .fz (.int (0 + (i : Int))), .no, .fz b, .fz w, .fz (.int kind), .no] ∧ HandD h ∧ El 43 8000 w) ?_ ?_
      · walk_at "go"
        refine call_by (draw_ok hh (by omega) (by omega)) ?_
        rintro d bs ⟨r, h2, rfl, rfl, hh2, r0, r1⟩
        have el : oList [.tup (ts.map tD)] = some (.lst (ts.map tD)) := rfl
        by_cases hr : r = 0
        · have hb : (r == 0) = true := by simpa using hr
          walk_at "go hb el"
          refine call_by (odd_ok hh2) ?_
          rintro d bs ⟨h3, hd, rfl, hh3⟩
          walk_at "go l6"
          refine call_by (some_of (P := El 43 8000) hh3 (by simp) (by simp) fun d2 hd2 => ?_) ?_
          · simp only [List.mem_cons, List.not_mem_nil, or_false] at hd2
            rcases hd2 with rfl | rfl | rfl | rfl | rfl | rfl
            · have h1 := (big okT (by omega)).nd
              rw [nd] at h1
              exact ⟨.lst _ fun x hx => (okT x hx).pl, by rw [nd]; exact h1⟩
            · exact ⟨.non, by simp [nd]⟩
            · exact ⟨.int _, by simp [nd]⟩
            · exact ⟨.str _ ok_em, by simp [nd]⟩
            · exact ⟨.emp, by simp [nd]⟩
            · exact hd.up (by omega) (by omega)
          rintro d2 bs ⟨h4, hd2, rfl, hh4⟩
          walk_at "go"
          exact ⟨_, _, rfl, hh4, hd2⟩
        · have hb : (r == 0) = false := by simpa using hr
          walk_at "go hb"
          exact ⟨_, _, rfl, hh2, big hwd (by omega)⟩
      clear hh hwd lwd wd
      rintro E ⟨h, w, rfl, hh, hw⟩
      have b1 := hb.nd
      have b2 := hw.nd
      have e1 := e_made (by omega) hb.pl hw.pl (by omega) (by omega)
      have e2 := e_part hb.pl hw.pl (by omega) (by omega)
      have e3 : sem__law_is 50 [.fz (partD b w), .fz (partD b w)] = .val (.bl true) [.no, .no] := is_part b w
      walk_at "go e1 e2 e3"
      exact ⟨_, _, _, _, _, rfl, hh⟩
    · rintro E ⟨h, s10, s12, s13, s14, rfl, hh⟩
      exact ⟨_, _, _, _, _, rfl, hh⟩
  clear hh
  rintro E ⟨h, s10, s12, s13, s14, rfl, hh⟩
  have e6 := e_hearing (k := 0)
  refine seq_cut (fun E => ∃ (h : D) (l : Int), E = [.fz (.scr ns), .own h, .fz (.int share), .fz (.lst (fs.map .int)), .fz (.tup (gs.map .int)), .fz (.tup (ts.map tD)), .fz (.int l), .fz (fD gs ts), .fz th, s9, s10, .fz (.ins 1 ["hearing"] [.raw 0]), s12, s13, s14, .no] ∧ HandD h) ?_ ?_
  · walk_at "go e6"
    refine call_by (draw_ok hh (by omega) (by omega)) ?_
    rintro d bs ⟨r, h2, rfl, rfl, hh2, r0, r1⟩
    walk_at "go"
    exact ⟨_, _, rfl, hh2⟩
  clear hh
  rintro E ⟨h, l, rfl, hh⟩
  obtain ⟨x, e1, e2⟩ := e_lear l hth
  have e3 := e_hear_ear e1
  have e4 := e_eqH (gs := gs) (ts := ts) (ns := ["hearing"]) (ds := [.raw 0])
  have nb1 : (lookD "ear" ["hearing"] [D.raw 0]).isNone = true := rfl
  have ek : ∀ {fn : Fn} {a b : Ar} {Q : D → Nv → Prop} {E : Nv} {g : Tg (fn, Q)} {n1 n2 : List Str} {d1 d2 : List D}, eqK 2 0 fn a b Q g E (some (.ins 0 n1 d1)) (some (.ins 1 n2 d2)) = eqR fn a b Q E := eqK_oth (by omega) (by omega)
  unfold fD at e4 ⊢
  walk_at "go e1 e2 e3 e4 nb1 ek"
theorem main (ns : List Int) (hn : ns.length ≤ 63) : ∃ bs, sem_law [.fz (.scr ns)] = .val (.bl true) bs := by
  have h := e_law hn
  revert h
  cases sem_law [.fz (.scr ns)] with
  | val d bs => rintro rfl; exact ⟨bs, rfl⟩
  | _ => exact fun h => h.elim

end Law

namespace Law
open PySem PySem.Spec PyProof.Rows L2 FL
theorem law_sp {K : PySem.W.Frag} {a : Adr} {H : Hp} {p : Addr} {ns : List Int} (hO : Only H) (hS : SqL K H p (ns.map V.int)) (h : ∃ bs, sem_law [.fz (.scr ns)] = .val (.bl true) bs) : spF (gm K a) 1 sem_law [.ref p] H (fun v _ => v = .bl true) fun _ _ _ => False := by
  obtain ⟨bs, e⟩ := h
  refine ⟨rfl, fun _ => 0, fun _ => none, [.fz (.scr ns)], H, ⟨Same.refl _, (fun _ _ z => nomatch z), (fun _ _ z => nomatch z), rfl, fun i d z => ?_, fun _ => 0, fun i s d z c => ?_, fun i k d z => ?_, fun i j s t d e e1 c1 _ _ _ => ?_⟩, ?_⟩
  · cases i with
    | zero => cases z; exact ⟨_, rfl, p, rfl, hS⟩
    | succ i => simp at z
  · cases i with
    | zero => cases z; cases c
    | succ i => simp at z
  · cases i with
    | zero => cases z
    | succ i => simp at z
  · cases i with
    | zero => cases e1; cases c1
    | succ i => simp at e1
  · rw [e]; exact fun v F' H' _ _ r => r
theorem all_mk {K : PySem.W.Frag} {h : Heap} {mg : Str → Option Value} (X : K.In h) (G : h.Ns mainGlobals mg)
    {c_TalkError c_BadFaults c_Faults c_Hearing a_is_integer a_is_between a_is_sized a_is_lot a_is_leaf a_is_thing a_BadFaults___init__ a_is_turn a_first_wrong a_Faults___init__ a_Faults___eq__ a_Faults_ear a_Hearing___init__ a_Hearing_ear a__law_hand a__law_draw a__law_some a__law_is a__law_signs a__law_word a__law_is_number a__law_is_thing a__law_thing a__law_wrapped a__law_rising a__law_part a__law_made a__law_odd a__law_ear a__law_spoilt a__law_twin a__law_hears a_law : Addr}
    {od_is_integer an_is_integer : Option Addr} {sl_is_integer : Array (Option Value)} {oc_is_integer kV_is_integer dc_is_integer pm_is_integer cd_is_integer ct_is_integer : Value}
    {od_is_between an_is_between : Option Addr} {sl_is_between : Array (Option Value)} {oc_is_between kV_is_between dc_is_between pm_is_between cd_is_between ct_is_between : Value}
    {od_is_sized an_is_sized : Option Addr} {sl_is_sized : Array (Option Value)} {oc_is_sized kV_is_sized dc_is_sized pm_is_sized cd_is_sized ct_is_sized : Value}
    {od_is_lot an_is_lot : Option Addr} {sl_is_lot : Array (Option Value)} {oc_is_lot kV_is_lot dc_is_lot pm_is_lot cd_is_lot ct_is_lot : Value}
    {od_is_leaf an_is_leaf : Option Addr} {sl_is_leaf : Array (Option Value)} {oc_is_leaf kV_is_leaf dc_is_leaf pm_is_leaf cd_is_leaf ct_is_leaf : Value}
    {od_is_thing an_is_thing : Option Addr} {sl_is_thing : Array (Option Value)} {oc_is_thing kV_is_thing dc_is_thing pm_is_thing cd_is_thing ct_is_thing : Value}
    {od_BadFaults___init__ an_BadFaults___init__ : Option Addr} {sl_BadFaults___init__ : Array (Option Value)} {oc_BadFaults___init__ kV_BadFaults___init__ dc_BadFaults___init__ pm_BadFaults___init__ cd_BadFaults___init__ ct_BadFaults___init__ : Value}
    {od_is_turn an_is_turn : Option Addr} {sl_is_turn : Array (Option Value)} {oc_is_turn kV_is_turn dc_is_turn pm_is_turn cd_is_turn ct_is_turn : Value}
    {od_first_wrong an_first_wrong : Option Addr} {sl_first_wrong : Array (Option Value)} {oc_first_wrong kV_first_wrong dc_first_wrong pm_first_wrong cd_first_wrong ct_first_wrong : Value}
    {od_Faults___init__ an_Faults___init__ : Option Addr} {sl_Faults___init__ : Array (Option Value)} {oc_Faults___init__ kV_Faults___init__ dc_Faults___init__ pm_Faults___init__ cd_Faults___init__ ct_Faults___init__ : Value}
    {od_Faults___eq__ an_Faults___eq__ : Option Addr} {sl_Faults___eq__ : Array (Option Value)} {oc_Faults___eq__ kV_Faults___eq__ dc_Faults___eq__ pm_Faults___eq__ cd_Faults___eq__ ct_Faults___eq__ : Value}
    {od_Faults_ear an_Faults_ear : Option Addr} {sl_Faults_ear : Array (Option Value)} {oc_Faults_ear kV_Faults_ear dc_Faults_ear pm_Faults_ear cd_Faults_ear ct_Faults_ear : Value}
    {od_Hearing___init__ an_Hearing___init__ : Option Addr} {sl_Hearing___init__ : Array (Option Value)} {oc_Hearing___init__ kV_Hearing___init__ dc_Hearing___init__ pm_Hearing___init__ cd_Hearing___init__ ct_Hearing___init__ : Value}
    {od_Hearing_ear an_Hearing_ear : Option Addr} {sl_Hearing_ear : Array (Option Value)} {oc_Hearing_ear kV_Hearing_ear dc_Hearing_ear pm_Hearing_ear cd_Hearing_ear ct_Hearing_ear : Value}
    {od__law_hand an__law_hand : Option Addr} {sl__law_hand : Array (Option Value)} {oc__law_hand kV__law_hand dc__law_hand pm__law_hand cd__law_hand ct__law_hand : Value}
    {od__law_draw an__law_draw : Option Addr} {sl__law_draw : Array (Option Value)} {oc__law_draw kV__law_draw dc__law_draw pm__law_draw cd__law_draw ct__law_draw : Value}
    {od__law_some an__law_some : Option Addr} {sl__law_some : Array (Option Value)} {oc__law_some kV__law_some dc__law_some pm__law_some cd__law_some ct__law_some : Value}
    {od__law_is an__law_is : Option Addr} {sl__law_is : Array (Option Value)} {oc__law_is kV__law_is dc__law_is pm__law_is cd__law_is ct__law_is : Value}
    {od__law_signs an__law_signs : Option Addr} {sl__law_signs : Array (Option Value)} {oc__law_signs kV__law_signs dc__law_signs pm__law_signs cd__law_signs ct__law_signs : Value}
    {od__law_word an__law_word : Option Addr} {sl__law_word : Array (Option Value)} {oc__law_word kV__law_word dc__law_word pm__law_word cd__law_word ct__law_word : Value}
    {od__law_is_number an__law_is_number : Option Addr} {sl__law_is_number : Array (Option Value)} {oc__law_is_number kV__law_is_number dc__law_is_number pm__law_is_number cd__law_is_number ct__law_is_number : Value}
    {od__law_is_thing an__law_is_thing : Option Addr} {sl__law_is_thing : Array (Option Value)} {oc__law_is_thing kV__law_is_thing dc__law_is_thing pm__law_is_thing cd__law_is_thing ct__law_is_thing : Value}
    {od__law_thing an__law_thing : Option Addr} {sl__law_thing : Array (Option Value)} {oc__law_thing kV__law_thing dc__law_thing pm__law_thing cd__law_thing ct__law_thing : Value}
    {od__law_wrapped an__law_wrapped : Option Addr} {sl__law_wrapped : Array (Option Value)} {oc__law_wrapped kV__law_wrapped dc__law_wrapped pm__law_wrapped cd__law_wrapped ct__law_wrapped : Value}
    {od__law_rising an__law_rising : Option Addr} {sl__law_rising : Array (Option Value)} {oc__law_rising kV__law_rising dc__law_rising pm__law_rising cd__law_rising ct__law_rising : Value}
    {od__law_part an__law_part : Option Addr} {sl__law_part : Array (Option Value)} {oc__law_part kV__law_part dc__law_part pm__law_part cd__law_part ct__law_part : Value}
    {od__law_made an__law_made : Option Addr} {sl__law_made : Array (Option Value)} {oc__law_made kV__law_made dc__law_made pm__law_made cd__law_made ct__law_made : Value}
    {od__law_odd an__law_odd : Option Addr} {sl__law_odd : Array (Option Value)} {oc__law_odd kV__law_odd dc__law_odd pm__law_odd cd__law_odd ct__law_odd : Value}
    {od__law_ear an__law_ear : Option Addr} {sl__law_ear : Array (Option Value)} {oc__law_ear kV__law_ear dc__law_ear pm__law_ear cd__law_ear ct__law_ear : Value}
    {od__law_spoilt an__law_spoilt : Option Addr} {sl__law_spoilt : Array (Option Value)} {oc__law_spoilt kV__law_spoilt dc__law_spoilt pm__law_spoilt cd__law_spoilt ct__law_spoilt : Value}
    {od__law_twin an__law_twin : Option Addr} {sl__law_twin : Array (Option Value)} {oc__law_twin kV__law_twin dc__law_twin pm__law_twin cd__law_twin ct__law_twin : Value}
    {od__law_hears an__law_hears : Option Addr} {sl__law_hears : Array (Option Value)} {oc__law_hears kV__law_hears dc__law_hears pm__law_hears cd__law_hears ct__law_hears : Value}
    {od_law an_law : Option Addr} {sl_law : Array (Option Value)} {oc_law kV_law dc_law pm_law cd_law ct_law : Value}
    {t_MOST_LETTERS : Tok}
    {nm_BadFaults q_BadFaults : Str} {N_BadFaults : Addr} {bs_BadFaults : List Value} {sn_BadFaults : List Str} {sub_BadFaults : List Value} {ab_BadFaults : Bool} {col_BadFaults : Option Bool} {dd_BadFaults : Option Addr} {k0_BadFaults k1_BadFaults k2_BadFaults k3_BadFaults k5_BadFaults : Option Value}
    (m_TalkError : PySem.W.nsIn K mainGlobals "TalkError" = some (some (.ref c_TalkError)))
    (m_BadFaults : PySem.W.nsIn K mainGlobals "BadFaults" = some (some (.ref c_BadFaults)))
    (m_Faults : PySem.W.nsIn K mainGlobals "Faults" = some (some (.ref c_Faults)))
    (m_Hearing : PySem.W.nsIn K mainGlobals "Hearing" = some (some (.ref c_Hearing)))
    (n_is_integer : PySem.W.nsIn K mainGlobals "is_integer" = some (some (.ref a_is_integer)))
    (l_is_integer : K.lookup a_is_integer = some ⟨oc_is_integer, od_is_integer, .func (PySem.W.fnOf "is_integer" "is_integer" (defArgs s_is_integer) (defBody s_is_integer) (defScope s_is_integer) .none kV_is_integer dc_is_integer pm_is_integer an_is_integer cd_is_integer ct_is_integer), sl_is_integer⟩)
    (e_is_integer : PySem.W.codeIn K cd_is_integer "is_integer" = true)
    (kk_is_integer : PySem.W.keepIn K (.ref a_is_integer) = true)
    (n_is_between : PySem.W.nsIn K mainGlobals "is_between" = some (some (.ref a_is_between)))
    (l_is_between : K.lookup a_is_between = some ⟨oc_is_between, od_is_between, .func (PySem.W.fnOf "is_between" "is_between" (defArgs s_is_between) (defBody s_is_between) (defScope s_is_between) .none kV_is_between dc_is_between pm_is_between an_is_between cd_is_between ct_is_between), sl_is_between⟩)
    (e_is_between : PySem.W.codeIn K cd_is_between "is_between" = true)
    (kk_is_between : PySem.W.keepIn K (.ref a_is_between) = true)
    (n_is_sized : PySem.W.nsIn K mainGlobals "is_sized" = some (some (.ref a_is_sized)))
    (l_is_sized : K.lookup a_is_sized = some ⟨oc_is_sized, od_is_sized, .func (PySem.W.fnOf "is_sized" "is_sized" (defArgs s_is_sized) (defBody s_is_sized) (defScope s_is_sized) .none kV_is_sized dc_is_sized pm_is_sized an_is_sized cd_is_sized ct_is_sized), sl_is_sized⟩)
    (e_is_sized : PySem.W.codeIn K cd_is_sized "is_sized" = true)
    (kk_is_sized : PySem.W.keepIn K (.ref a_is_sized) = true)
    (n_is_lot : PySem.W.nsIn K mainGlobals "is_lot" = some (some (.ref a_is_lot)))
    (l_is_lot : K.lookup a_is_lot = some ⟨oc_is_lot, od_is_lot, .func (PySem.W.fnOf "is_lot" "is_lot" (defArgs s_is_lot) (defBody s_is_lot) (defScope s_is_lot) .none kV_is_lot dc_is_lot pm_is_lot an_is_lot cd_is_lot ct_is_lot), sl_is_lot⟩)
    (e_is_lot : PySem.W.codeIn K cd_is_lot "is_lot" = true)
    (kk_is_lot : PySem.W.keepIn K (.ref a_is_lot) = true)
    (n_is_leaf : PySem.W.nsIn K mainGlobals "is_leaf" = some (some (.ref a_is_leaf)))
    (l_is_leaf : K.lookup a_is_leaf = some ⟨oc_is_leaf, od_is_leaf, .func (PySem.W.fnOf "is_leaf" "is_leaf" (defArgs s_is_leaf) (defBody s_is_leaf) (defScope s_is_leaf) .none kV_is_leaf dc_is_leaf pm_is_leaf an_is_leaf cd_is_leaf ct_is_leaf), sl_is_leaf⟩)
    (e_is_leaf : PySem.W.codeIn K cd_is_leaf "is_leaf" = true)
    (kk_is_leaf : PySem.W.keepIn K (.ref a_is_leaf) = true)
    (n_is_thing : PySem.W.nsIn K mainGlobals "is_thing" = some (some (.ref a_is_thing)))
    (l_is_thing : K.lookup a_is_thing = some ⟨oc_is_thing, od_is_thing, .func (PySem.W.fnOf "is_thing" "is_thing" (defArgs s_is_thing) (defBody s_is_thing) (defScope s_is_thing) .none kV_is_thing dc_is_thing pm_is_thing an_is_thing cd_is_thing ct_is_thing), sl_is_thing⟩)
    (e_is_thing : PySem.W.codeIn K cd_is_thing "is_thing" = true)
    (kk_is_thing : PySem.W.keepIn K (.ref a_is_thing) = true)
    (n_BadFaults___init__ : PySem.W.findIn K (.ref c_BadFaults) "__init__" = some (some (.ref a_BadFaults___init__)))
    (l_BadFaults___init__ : K.lookup a_BadFaults___init__ = some ⟨oc_BadFaults___init__, od_BadFaults___init__, .func (PySem.W.fnOf "__init__" "BadFaults.__init__" (defArgs s_BadFaults___init__) (defBody s_BadFaults___init__) (defScope s_BadFaults___init__) .none kV_BadFaults___init__ dc_BadFaults___init__ pm_BadFaults___init__ an_BadFaults___init__ cd_BadFaults___init__ ct_BadFaults___init__), sl_BadFaults___init__⟩)
    (e_BadFaults___init__ : PySem.W.codeIn K cd_BadFaults___init__ "BadFaults.__init__" = true)
    (kk_BadFaults___init__ : PySem.W.keepIn K (.ref a_BadFaults___init__) = true)
    (n_is_turn : PySem.W.nsIn K mainGlobals "is_turn" = some (some (.ref a_is_turn)))
    (l_is_turn : K.lookup a_is_turn = some ⟨oc_is_turn, od_is_turn, .func (PySem.W.fnOf "is_turn" "is_turn" (defArgs s_is_turn) (defBody s_is_turn) (defScope s_is_turn) .none kV_is_turn dc_is_turn pm_is_turn an_is_turn cd_is_turn ct_is_turn), sl_is_turn⟩)
    (e_is_turn : PySem.W.codeIn K cd_is_turn "is_turn" = true)
    (kk_is_turn : PySem.W.keepIn K (.ref a_is_turn) = true)
    (n_first_wrong : PySem.W.nsIn K mainGlobals "first_wrong" = some (some (.ref a_first_wrong)))
    (l_first_wrong : K.lookup a_first_wrong = some ⟨oc_first_wrong, od_first_wrong, .func (PySem.W.fnOf "first_wrong" "first_wrong" (defArgs s_first_wrong) (defBody s_first_wrong) (defScope s_first_wrong) .none kV_first_wrong dc_first_wrong pm_first_wrong an_first_wrong cd_first_wrong ct_first_wrong), sl_first_wrong⟩)
    (e_first_wrong : PySem.W.codeIn K cd_first_wrong "first_wrong" = true)
    (kk_first_wrong : PySem.W.keepIn K (.ref a_first_wrong) = true)
    (n_Faults___init__ : PySem.W.findIn K (.ref c_Faults) "__init__" = some (some (.ref a_Faults___init__)))
    (l_Faults___init__ : K.lookup a_Faults___init__ = some ⟨oc_Faults___init__, od_Faults___init__, .func (PySem.W.fnOf "__init__" "Faults.__init__" (defArgs s_Faults___init__) (defBody s_Faults___init__) (defScope s_Faults___init__) .none kV_Faults___init__ dc_Faults___init__ pm_Faults___init__ an_Faults___init__ cd_Faults___init__ ct_Faults___init__), sl_Faults___init__⟩)
    (e_Faults___init__ : PySem.W.codeIn K cd_Faults___init__ "Faults.__init__" = true)
    (kk_Faults___init__ : PySem.W.keepIn K (.ref a_Faults___init__) = true)
    (n_Faults___eq__ : PySem.W.findIn K (.ref c_Faults) "__eq__" = some (some (.ref a_Faults___eq__)))
    (l_Faults___eq__ : K.lookup a_Faults___eq__ = some ⟨oc_Faults___eq__, od_Faults___eq__, .func (PySem.W.fnOf "__eq__" "Faults.__eq__" (defArgs s_Faults___eq__) (defBody s_Faults___eq__) (defScope s_Faults___eq__) .none kV_Faults___eq__ dc_Faults___eq__ pm_Faults___eq__ an_Faults___eq__ cd_Faults___eq__ ct_Faults___eq__), sl_Faults___eq__⟩)
    (e_Faults___eq__ : PySem.W.codeIn K cd_Faults___eq__ "Faults.__eq__" = true)
    (kk_Faults___eq__ : PySem.W.keepIn K (.ref a_Faults___eq__) = true)
    (n_Faults_ear : PySem.W.findIn K (.ref c_Faults) "ear" = some (some (.ref a_Faults_ear)))
    (l_Faults_ear : K.lookup a_Faults_ear = some ⟨oc_Faults_ear, od_Faults_ear, .func (PySem.W.fnOf "ear" "Faults.ear" (defArgs s_Faults_ear) (defBody s_Faults_ear) (defScope s_Faults_ear) .none kV_Faults_ear dc_Faults_ear pm_Faults_ear an_Faults_ear cd_Faults_ear ct_Faults_ear), sl_Faults_ear⟩)
    (e_Faults_ear : PySem.W.codeIn K cd_Faults_ear "Faults.ear" = true)
    (kk_Faults_ear : PySem.W.keepIn K (.ref a_Faults_ear) = true)
    (n_Hearing___init__ : PySem.W.findIn K (.ref c_Hearing) "__init__" = some (some (.ref a_Hearing___init__)))
    (l_Hearing___init__ : K.lookup a_Hearing___init__ = some ⟨oc_Hearing___init__, od_Hearing___init__, .func (PySem.W.fnOf "__init__" "Hearing.__init__" (defArgs s_Hearing___init__) (defBody s_Hearing___init__) (defScope s_Hearing___init__) .none kV_Hearing___init__ dc_Hearing___init__ pm_Hearing___init__ an_Hearing___init__ cd_Hearing___init__ ct_Hearing___init__), sl_Hearing___init__⟩)
    (e_Hearing___init__ : PySem.W.codeIn K cd_Hearing___init__ "Hearing.__init__" = true)
    (kk_Hearing___init__ : PySem.W.keepIn K (.ref a_Hearing___init__) = true)
    (n_Hearing_ear : PySem.W.findIn K (.ref c_Hearing) "ear" = some (some (.ref a_Hearing_ear)))
    (l_Hearing_ear : K.lookup a_Hearing_ear = some ⟨oc_Hearing_ear, od_Hearing_ear, .func (PySem.W.fnOf "ear" "Hearing.ear" (defArgs s_Hearing_ear) (defBody s_Hearing_ear) (defScope s_Hearing_ear) .none kV_Hearing_ear dc_Hearing_ear pm_Hearing_ear an_Hearing_ear cd_Hearing_ear ct_Hearing_ear), sl_Hearing_ear⟩)
    (e_Hearing_ear : PySem.W.codeIn K cd_Hearing_ear "Hearing.ear" = true)
    (kk_Hearing_ear : PySem.W.keepIn K (.ref a_Hearing_ear) = true)
    (n__law_hand : PySem.W.nsIn K mainGlobals "_law_hand" = some (some (.ref a__law_hand)))
    (l__law_hand : K.lookup a__law_hand = some ⟨oc__law_hand, od__law_hand, .func (PySem.W.fnOf "_law_hand" "_law_hand" (defArgs s__law_hand) (defBody s__law_hand) (defScope s__law_hand) .none kV__law_hand dc__law_hand pm__law_hand an__law_hand cd__law_hand ct__law_hand), sl__law_hand⟩)
    (e__law_hand : PySem.W.codeIn K cd__law_hand "_law_hand" = true)
    (kk__law_hand : PySem.W.keepIn K (.ref a__law_hand) = true)
    (n__law_draw : PySem.W.nsIn K mainGlobals "_law_draw" = some (some (.ref a__law_draw)))
    (l__law_draw : K.lookup a__law_draw = some ⟨oc__law_draw, od__law_draw, .func (PySem.W.fnOf "_law_draw" "_law_draw" (defArgs s__law_draw) (defBody s__law_draw) (defScope s__law_draw) .none kV__law_draw dc__law_draw pm__law_draw an__law_draw cd__law_draw ct__law_draw), sl__law_draw⟩)
    (e__law_draw : PySem.W.codeIn K cd__law_draw "_law_draw" = true)
    (kk__law_draw : PySem.W.keepIn K (.ref a__law_draw) = true)
    (n__law_some : PySem.W.nsIn K mainGlobals "_law_some" = some (some (.ref a__law_some)))
    (l__law_some : K.lookup a__law_some = some ⟨oc__law_some, od__law_some, .func (PySem.W.fnOf "_law_some" "_law_some" (defArgs s__law_some) (defBody s__law_some) (defScope s__law_some) .none kV__law_some dc__law_some pm__law_some an__law_some cd__law_some ct__law_some), sl__law_some⟩)
    (e__law_some : PySem.W.codeIn K cd__law_some "_law_some" = true)
    (kk__law_some : PySem.W.keepIn K (.ref a__law_some) = true)
    (n__law_is : PySem.W.nsIn K mainGlobals "_law_is" = some (some (.ref a__law_is)))
    (l__law_is : K.lookup a__law_is = some ⟨oc__law_is, od__law_is, .func (PySem.W.fnOf "_law_is" "_law_is" (defArgs s__law_is) (defBody s__law_is) (defScope s__law_is) .none kV__law_is dc__law_is pm__law_is an__law_is cd__law_is ct__law_is), sl__law_is⟩)
    (e__law_is : PySem.W.codeIn K cd__law_is "_law_is" = true)
    (kk__law_is : PySem.W.keepIn K (.ref a__law_is) = true)
    (n__law_signs : PySem.W.nsIn K mainGlobals "_law_signs" = some (some (.ref a__law_signs)))
    (l__law_signs : K.lookup a__law_signs = some ⟨oc__law_signs, od__law_signs, .func (PySem.W.fnOf "_law_signs" "_law_signs" (defArgs s__law_signs) (defBody s__law_signs) (defScope s__law_signs) .none kV__law_signs dc__law_signs pm__law_signs an__law_signs cd__law_signs ct__law_signs), sl__law_signs⟩)
    (e__law_signs : PySem.W.codeIn K cd__law_signs "_law_signs" = true)
    (kk__law_signs : PySem.W.keepIn K (.ref a__law_signs) = true)
    (n__law_word : PySem.W.nsIn K mainGlobals "_law_word" = some (some (.ref a__law_word)))
    (l__law_word : K.lookup a__law_word = some ⟨oc__law_word, od__law_word, .func (PySem.W.fnOf "_law_word" "_law_word" (defArgs s__law_word) (defBody s__law_word) (defScope s__law_word) .none kV__law_word dc__law_word pm__law_word an__law_word cd__law_word ct__law_word), sl__law_word⟩)
    (e__law_word : PySem.W.codeIn K cd__law_word "_law_word" = true)
    (kk__law_word : PySem.W.keepIn K (.ref a__law_word) = true)
    (n__law_is_number : PySem.W.nsIn K mainGlobals "_law_is_number" = some (some (.ref a__law_is_number)))
    (l__law_is_number : K.lookup a__law_is_number = some ⟨oc__law_is_number, od__law_is_number, .func (PySem.W.fnOf "_law_is_number" "_law_is_number" (defArgs s__law_is_number) (defBody s__law_is_number) (defScope s__law_is_number) .none kV__law_is_number dc__law_is_number pm__law_is_number an__law_is_number cd__law_is_number ct__law_is_number), sl__law_is_number⟩)
    (e__law_is_number : PySem.W.codeIn K cd__law_is_number "_law_is_number" = true)
    (kk__law_is_number : PySem.W.keepIn K (.ref a__law_is_number) = true)
    (n__law_is_thing : PySem.W.nsIn K mainGlobals "_law_is_thing" = some (some (.ref a__law_is_thing)))
    (l__law_is_thing : K.lookup a__law_is_thing = some ⟨oc__law_is_thing, od__law_is_thing, .func (PySem.W.fnOf "_law_is_thing" "_law_is_thing" (defArgs s__law_is_thing) (defBody s__law_is_thing) (defScope s__law_is_thing) .none kV__law_is_thing dc__law_is_thing pm__law_is_thing an__law_is_thing cd__law_is_thing ct__law_is_thing), sl__law_is_thing⟩)
    (e__law_is_thing : PySem.W.codeIn K cd__law_is_thing "_law_is_thing" = true)
    (kk__law_is_thing : PySem.W.keepIn K (.ref a__law_is_thing) = true)
    (n__law_thing : PySem.W.nsIn K mainGlobals "_law_thing" = some (some (.ref a__law_thing)))
    (l__law_thing : K.lookup a__law_thing = some ⟨oc__law_thing, od__law_thing, .func (PySem.W.fnOf "_law_thing" "_law_thing" (defArgs s__law_thing) (defBody s__law_thing) (defScope s__law_thing) .none kV__law_thing dc__law_thing pm__law_thing an__law_thing cd__law_thing ct__law_thing), sl__law_thing⟩)
    (e__law_thing : PySem.W.codeIn K cd__law_thing "_law_thing" = true)
    (kk__law_thing : PySem.W.keepIn K (.ref a__law_thing) = true)
    (n__law_wrapped : PySem.W.nsIn K mainGlobals "_law_wrapped" = some (some (.ref a__law_wrapped)))
    (l__law_wrapped : K.lookup a__law_wrapped = some ⟨oc__law_wrapped, od__law_wrapped, .func (PySem.W.fnOf "_law_wrapped" "_law_wrapped" (defArgs s__law_wrapped) (defBody s__law_wrapped) (defScope s__law_wrapped) .none kV__law_wrapped dc__law_wrapped pm__law_wrapped an__law_wrapped cd__law_wrapped ct__law_wrapped), sl__law_wrapped⟩)
    (e__law_wrapped : PySem.W.codeIn K cd__law_wrapped "_law_wrapped" = true)
    (kk__law_wrapped : PySem.W.keepIn K (.ref a__law_wrapped) = true)
    (n__law_rising : PySem.W.nsIn K mainGlobals "_law_rising" = some (some (.ref a__law_rising)))
    (l__law_rising : K.lookup a__law_rising = some ⟨oc__law_rising, od__law_rising, .func (PySem.W.fnOf "_law_rising" "_law_rising" (defArgs s__law_rising) (defBody s__law_rising) (defScope s__law_rising) .none kV__law_rising dc__law_rising pm__law_rising an__law_rising cd__law_rising ct__law_rising), sl__law_rising⟩)
    (e__law_rising : PySem.W.codeIn K cd__law_rising "_law_rising" = true)
    (kk__law_rising : PySem.W.keepIn K (.ref a__law_rising) = true)
    (n__law_part : PySem.W.nsIn K mainGlobals "_law_part" = some (some (.ref a__law_part)))
    (l__law_part : K.lookup a__law_part = some ⟨oc__law_part, od__law_part, .func (PySem.W.fnOf "_law_part" "_law_part" (defArgs s__law_part) (defBody s__law_part) (defScope s__law_part) .none kV__law_part dc__law_part pm__law_part an__law_part cd__law_part ct__law_part), sl__law_part⟩)
    (e__law_part : PySem.W.codeIn K cd__law_part "_law_part" = true)
    (kk__law_part : PySem.W.keepIn K (.ref a__law_part) = true)
    (n__law_made : PySem.W.nsIn K mainGlobals "_law_made" = some (some (.ref a__law_made)))
    (l__law_made : K.lookup a__law_made = some ⟨oc__law_made, od__law_made, .func (PySem.W.fnOf "_law_made" "_law_made" (defArgs s__law_made) (defBody s__law_made) (defScope s__law_made) .none kV__law_made dc__law_made pm__law_made an__law_made cd__law_made ct__law_made), sl__law_made⟩)
    (e__law_made : PySem.W.codeIn K cd__law_made "_law_made" = true)
    (kk__law_made : PySem.W.keepIn K (.ref a__law_made) = true)
    (n__law_odd : PySem.W.nsIn K mainGlobals "_law_odd" = some (some (.ref a__law_odd)))
    (l__law_odd : K.lookup a__law_odd = some ⟨oc__law_odd, od__law_odd, .func (PySem.W.fnOf "_law_odd" "_law_odd" (defArgs s__law_odd) (defBody s__law_odd) (defScope s__law_odd) .none kV__law_odd dc__law_odd pm__law_odd an__law_odd cd__law_odd ct__law_odd), sl__law_odd⟩)
    (e__law_odd : PySem.W.codeIn K cd__law_odd "_law_odd" = true)
    (kk__law_odd : PySem.W.keepIn K (.ref a__law_odd) = true)
    (n__law_ear : PySem.W.nsIn K mainGlobals "_law_ear" = some (some (.ref a__law_ear)))
    (l__law_ear : K.lookup a__law_ear = some ⟨oc__law_ear, od__law_ear, .func (PySem.W.fnOf "_law_ear" "_law_ear" (defArgs s__law_ear) (defBody s__law_ear) (defScope s__law_ear) .none kV__law_ear dc__law_ear pm__law_ear an__law_ear cd__law_ear ct__law_ear), sl__law_ear⟩)
    (e__law_ear : PySem.W.codeIn K cd__law_ear "_law_ear" = true)
    (kk__law_ear : PySem.W.keepIn K (.ref a__law_ear) = true)
    (n__law_spoilt : PySem.W.nsIn K mainGlobals "_law_spoilt" = some (some (.ref a__law_spoilt)))
    (l__law_spoilt : K.lookup a__law_spoilt = some ⟨oc__law_spoilt, od__law_spoilt, .func (PySem.W.fnOf "_law_spoilt" "_law_spoilt" (defArgs s__law_spoilt) (defBody s__law_spoilt) (defScope s__law_spoilt) .none kV__law_spoilt dc__law_spoilt pm__law_spoilt an__law_spoilt cd__law_spoilt ct__law_spoilt), sl__law_spoilt⟩)
    (e__law_spoilt : PySem.W.codeIn K cd__law_spoilt "_law_spoilt" = true)
    (kk__law_spoilt : PySem.W.keepIn K (.ref a__law_spoilt) = true)
    (n__law_twin : PySem.W.nsIn K mainGlobals "_law_twin" = some (some (.ref a__law_twin)))
    (l__law_twin : K.lookup a__law_twin = some ⟨oc__law_twin, od__law_twin, .func (PySem.W.fnOf "_law_twin" "_law_twin" (defArgs s__law_twin) (defBody s__law_twin) (defScope s__law_twin) .none kV__law_twin dc__law_twin pm__law_twin an__law_twin cd__law_twin ct__law_twin), sl__law_twin⟩)
    (e__law_twin : PySem.W.codeIn K cd__law_twin "_law_twin" = true)
    (kk__law_twin : PySem.W.keepIn K (.ref a__law_twin) = true)
    (n__law_hears : PySem.W.nsIn K mainGlobals "_law_hears" = some (some (.ref a__law_hears)))
    (l__law_hears : K.lookup a__law_hears = some ⟨oc__law_hears, od__law_hears, .func (PySem.W.fnOf "_law_hears" "_law_hears" (defArgs s__law_hears) (defBody s__law_hears) (defScope s__law_hears) .none kV__law_hears dc__law_hears pm__law_hears an__law_hears cd__law_hears ct__law_hears), sl__law_hears⟩)
    (e__law_hears : PySem.W.codeIn K cd__law_hears "_law_hears" = true)
    (kk__law_hears : PySem.W.keepIn K (.ref a__law_hears) = true)
    (n_law : PySem.W.nsIn K mainGlobals "law" = some (some (.ref a_law)))
    (l_law : K.lookup a_law = some ⟨oc_law, od_law, .func (PySem.W.fnOf "law" "law" (defArgs s_law) (defBody s_law) (defScope s_law) .none kV_law dc_law pm_law an_law cd_law ct_law), sl_law⟩)
    (e_law : PySem.W.codeIn K cd_law "law" = true)
    (kk_law : PySem.W.keepIn K (.ref a_law) = true)
    (pg_Faults : PySem.W.plainGet K c_Faults Str.empty = true)
    (hd_Faults : PySem.W.hasDictIn K c_Faults = true)
    (po_Faults : PySem.W.plainOver K c_Faults = true)
    (sa_Faults : PySem.W.findIn K (.ref c_Faults) "__setattr__" = some (some (.builtin "object.__setattr__")))
    (ca_Faults : PySem.W.findIn K (.ref c_Faults) "__class__" = some (some (.builtin "object.__class__")))
    (cm_Faults : PySem.W.mroIn K c_Faults (.type "object") = some true)
    (ci_Faults : PySem.W.isClsIn K c_Faults = true)
    (cy_Faults : PySem.W.typeIn K (.ref c_Faults) = some (.type "type"))
    (nb_bool_Faults : PySem.W.subIn K (.ref c_Faults) (.type "bool") = some false)
    (nb_int_Faults : PySem.W.subIn K (.ref c_Faults) (.type "int") = some false)
    (nb_str_Faults : PySem.W.subIn K (.ref c_Faults) (.type "str") = some false)
    (nb_tuple_Faults : PySem.W.subIn K (.ref c_Faults) (.type "tuple") = some false)
    (nb_list_Faults : PySem.W.subIn K (.ref c_Faults) (.type "list") = some false)
    (nb_dict_Faults : PySem.W.subIn K (.ref c_Faults) (.type "dict") = some false)
    (su_Faults_Faults : PySem.W.subIn K (.ref c_Faults) (.ref c_Faults) = some true)
    (su_Hearing_Faults : PySem.W.subIn K (.ref c_Hearing) (.ref c_Faults) = some false)
    (mm_Faults : PySem.W.makesIn K c_Faults = true)
    (mf_Faults : PySem.W.isFn K (.ref a_Faults___init__) = true)
    (mk_Faults : PySem.W.keepIn K (.ref c_Faults) = true)
    (mef_Faults_ear : PySem.W.isFn K (.ref a_Faults_ear) = true)
    (ef_Faults : PySem.W.isFn K (.ref a_Faults___eq__) = true)
    (na_part_Faults : PySem.W.findIn K (.ref c_Faults) "part" = some none)
    (na_lost_Faults : PySem.W.findIn K (.ref c_Faults) "lost" = some none)
    (na_turned_Faults : PySem.W.findIn K (.ref c_Faults) "turned" = some none)
    (na_hearing_Faults : PySem.W.findIn K (.ref c_Faults) "hearing" = some none)
    (pg_Hearing : PySem.W.plainGet K c_Hearing Str.empty = true)
    (hd_Hearing : PySem.W.hasDictIn K c_Hearing = true)
    (po_Hearing : PySem.W.plainOver K c_Hearing = true)
    (sa_Hearing : PySem.W.findIn K (.ref c_Hearing) "__setattr__" = some (some (.builtin "object.__setattr__")))
    (ca_Hearing : PySem.W.findIn K (.ref c_Hearing) "__class__" = some (some (.builtin "object.__class__")))
    (cm_Hearing : PySem.W.mroIn K c_Hearing (.type "object") = some true)
    (ci_Hearing : PySem.W.isClsIn K c_Hearing = true)
    (cy_Hearing : PySem.W.typeIn K (.ref c_Hearing) = some (.type "type"))
    (nb_bool_Hearing : PySem.W.subIn K (.ref c_Hearing) (.type "bool") = some false)
    (nb_int_Hearing : PySem.W.subIn K (.ref c_Hearing) (.type "int") = some false)
    (nb_str_Hearing : PySem.W.subIn K (.ref c_Hearing) (.type "str") = some false)
    (nb_tuple_Hearing : PySem.W.subIn K (.ref c_Hearing) (.type "tuple") = some false)
    (nb_list_Hearing : PySem.W.subIn K (.ref c_Hearing) (.type "list") = some false)
    (nb_dict_Hearing : PySem.W.subIn K (.ref c_Hearing) (.type "dict") = some false)
    (su_Faults_Hearing : PySem.W.subIn K (.ref c_Faults) (.ref c_Hearing) = some false)
    (su_Hearing_Hearing : PySem.W.subIn K (.ref c_Hearing) (.ref c_Hearing) = some true)
    (mm_Hearing : PySem.W.makesIn K c_Hearing = true)
    (mf_Hearing : PySem.W.isFn K (.ref a_Hearing___init__) = true)
    (mk_Hearing : PySem.W.keepIn K (.ref c_Hearing) = true)
    (mef_Hearing_ear : PySem.W.isFn K (.ref a_Hearing_ear) = true)
    (na_part_Hearing : PySem.W.findIn K (.ref c_Hearing) "part" = some none)
    (na_lost_Hearing : PySem.W.findIn K (.ref c_Hearing) "lost" = some none)
    (na_turned_Hearing : PySem.W.findIn K (.ref c_Hearing) "turned" = some none)
    (na_hearing_Hearing : PySem.W.findIn K (.ref c_Hearing) "hearing" = some none)
    (sb_TalkError : PySem.W.subIn K (.ref c_TalkError) (.type "BaseException") = some true)
    (ty_TalkError : PySem.W.typeIn K (.ref c_TalkError) = some (.type "type"))
    (hx_TalkError : PySem.W.hasDictIn K c_TalkError = true)
    (gx_TalkError : PySem.W.findIn K (.ref c_TalkError) "__getattribute__" = some (some (.builtin "BaseException.__getattribute__")))
    (gg_TalkError : PySem.W.findIn K (.ref c_TalkError) "__getattr__" = some none)
    (cx_TalkError : PySem.W.findIn K (.ref c_TalkError) "__class__" = some (some (.builtin "object.__class__")))
    (mx_TalkError : PySem.W.mroIn K c_TalkError (.type "object") = some true)
    (cix_TalkError : PySem.W.isClsIn K c_TalkError = true)
    (kx_TalkError : PySem.W.keepIn K (.ref c_TalkError) = true)
    (sb_BadFaults : PySem.W.subIn K (.ref c_BadFaults) (.type "BaseException") = some true)
    (ty_BadFaults : PySem.W.typeIn K (.ref c_BadFaults) = some (.type "type"))
    (hx_BadFaults : PySem.W.hasDictIn K c_BadFaults = true)
    (gx_BadFaults : PySem.W.findIn K (.ref c_BadFaults) "__getattribute__" = some (some (.builtin "BaseException.__getattribute__")))
    (gg_BadFaults : PySem.W.findIn K (.ref c_BadFaults) "__getattr__" = some none)
    (cx_BadFaults : PySem.W.findIn K (.ref c_BadFaults) "__class__" = some (some (.builtin "object.__class__")))
    (mx_BadFaults : PySem.W.mroIn K c_BadFaults (.type "object") = some true)
    (cix_BadFaults : PySem.W.isClsIn K c_BadFaults = true)
    (kx_BadFaults : PySem.W.keepIn K (.ref c_BadFaults) = true)
    (xl_BadFaults : K.lookup c_BadFaults = some (excClassObj nm_BadFaults q_BadFaults c_BadFaults N_BadFaults bs_BadFaults [.ref c_TalkError, .type "ValueError", .type "Exception", .type "BaseException", .type "object"] true sn_BadFaults sub_BadFaults ab_BadFaults col_BadFaults dd_BadFaults k0_BadFaults k1_BadFaults k2_BadFaults k3_BadFaults k5_BadFaults "ValueError.__new__"))
    (sxx_BadFaults : PySem.W.findIn K (.ref c_BadFaults) "__setattr__" = some (some (.builtin "object.__setattr__")))
    (nf_BadFaults : PySem.W.findIn K (.ref c_BadFaults) "part" = some none)
    (ti_BadFaults : PySem.W.typeIn K (.ref a_BadFaults___init__) = some (.type "function"))
    (su_TalkError_BadFaults : PySem.W.subIn K (.ref c_TalkError) (.ref c_BadFaults) = some false)
    (su_BadFaults_BadFaults : PySem.W.subIn K (.ref c_BadFaults) (.ref c_BadFaults) = some true)
    (su_TalkError_TalkError : PySem.W.subIn K (.ref c_TalkError) (.ref c_TalkError) = some true)
    (su_BadFaults_TalkError : PySem.W.subIn K (.ref c_BadFaults) (.ref c_TalkError) = some true)
    (su_TalkError_ValueError : PySem.W.subIn K (.ref c_TalkError) (.type "ValueError") = some true)
    (su_BadFaults_ValueError : PySem.W.subIn K (.ref c_BadFaults) (.type "ValueError") = some true)
    (cg : PySem.W.specialIn K (.builtin "object.__class__") "__get__" = some (some (.builtin "getset_descriptor.__get__")))
    (ct : PySem.W.takesIn K (.builtin "object.__class__") = some true)
    (q_MOST_LETTERS : PySem.W.nsIn K mainGlobals "MOST_LETTERS" = some (some (Value.int 60 t_MOST_LETTERS)))
    (b_ValueError : PySem.W.nsIn K mainGlobals "ValueError" = some none)
    (b_abs : PySem.W.nsIn K mainGlobals "abs" = some none)
    (b_all : PySem.W.nsIn K mainGlobals "all" = some none)
    (b_bool : PySem.W.nsIn K mainGlobals "bool" = some none)
    (b_enumerate : PySem.W.nsIn K mainGlobals "enumerate" = some none)
    (b_int : PySem.W.nsIn K mainGlobals "int" = some none)
    (b_isinstance : PySem.W.nsIn K mainGlobals "isinstance" = some none)
    (b_len : PySem.W.nsIn K mainGlobals "len" = some none)
    (b_list : PySem.W.nsIn K mainGlobals "list" = some none)
    (b_range : PySem.W.nsIn K mainGlobals "range" = some none)
    (b_str : PySem.W.nsIn K mainGlobals "str" = some none)
    (b_tuple : PySem.W.nsIn K mainGlobals "tuple" = some none)
    (b_zip : PySem.W.nsIn K mainGlobals "zip" = some none) :
    ∃ a : Adr, Txt K mg a ∧ mg "law" = some (.ref a.a_law) := by
  obtain ⟨d_is_integer, F_is_integer, B_is_integer⟩ := fun_at (st := s_is_integer) (ps := ["thing"]) l_is_integer e_is_integer kk_is_integer (fun _ _ _ _ _ _ us hl => match us, hl with | [_], _ => rfl)
  obtain ⟨d_is_between, F_is_between, B_is_between⟩ := fun_at (st := s_is_between) (ps := ["thing", "low", "high"]) l_is_between e_is_between kk_is_between (fun _ _ _ _ _ _ us hl => match us, hl with | [_, _, _], _ => rfl)
  obtain ⟨d_is_sized, F_is_sized, B_is_sized⟩ := fun_at (st := s_is_sized) (ps := ["thing", "low", "high"]) l_is_sized e_is_sized kk_is_sized (fun _ _ _ _ _ _ us hl => match us, hl with | [_, _, _], _ => rfl)
  obtain ⟨d_is_lot, F_is_lot, B_is_lot⟩ := fun_at (st := s_is_lot) (ps := ["thing", "below"]) l_is_lot e_is_lot kk_is_lot (fun _ _ _ _ _ _ us hl => match us, hl with | [_, _], _ => rfl)
  obtain ⟨d_is_leaf, F_is_leaf, B_is_leaf⟩ := fun_at (st := s_is_leaf) (ps := ["thing"]) l_is_leaf e_is_leaf kk_is_leaf (fun _ _ _ _ _ _ us hl => match us, hl with | [_], _ => rfl)
  obtain ⟨d_is_thing, F_is_thing, B_is_thing⟩ := fun_at (st := s_is_thing) (ps := ["thing"]) l_is_thing e_is_thing kk_is_thing (fun _ _ _ _ _ _ us hl => match us, hl with | [_], _ => rfl)
  obtain ⟨d_BadFaults___init__, F_BadFaults___init__, B_BadFaults___init__⟩ := fun_at (st := s_BadFaults___init__) (ps := ["self", "part"]) l_BadFaults___init__ e_BadFaults___init__ kk_BadFaults___init__ (fun _ _ _ _ _ _ us hl => match us, hl with | [_, _], _ => rfl)
  obtain ⟨d_is_turn, F_is_turn, B_is_turn⟩ := fun_at (st := s_is_turn) (ps := ["thing"]) l_is_turn e_is_turn kk_is_turn (fun _ _ _ _ _ _ us hl => match us, hl with | [_], _ => rfl)
  obtain ⟨d_first_wrong, F_first_wrong, B_first_wrong⟩ := fun_at (st := s_first_wrong) (ps := ["lost", "turned"]) l_first_wrong e_first_wrong kk_first_wrong (fun _ _ _ _ _ _ us hl => match us, hl with | [_, _], _ => rfl)
  obtain ⟨d_Faults___init__, F_Faults___init__, B_Faults___init__⟩ := fun_at (st := s_Faults___init__) (ps := ["self", "lost", "turned"]) l_Faults___init__ e_Faults___init__ kk_Faults___init__ (fun _ _ _ _ _ _ us hl => match us, hl with | [_, _, _], _ => rfl)
  obtain ⟨d_Faults___eq__, F_Faults___eq__, B_Faults___eq__⟩ := fun_at (st := s_Faults___eq__) (ps := ["self", "thing"]) l_Faults___eq__ e_Faults___eq__ kk_Faults___eq__ (fun _ _ _ _ _ _ us hl => match us, hl with | [_, _], _ => rfl)
  obtain ⟨d_Faults_ear, F_Faults_ear, B_Faults_ear⟩ := fun_at (st := s_Faults_ear) (ps := ["self", "letter", "thing"]) l_Faults_ear e_Faults_ear kk_Faults_ear (fun _ _ _ _ _ _ us hl => match us, hl with | [_, _, _], _ => rfl)
  obtain ⟨d_Hearing___init__, F_Hearing___init__, B_Hearing___init__⟩ := fun_at (st := s_Hearing___init__) (ps := ["self", "hearing"]) l_Hearing___init__ e_Hearing___init__ kk_Hearing___init__ (fun _ _ _ _ _ _ us hl => match us, hl with | [_, _], _ => rfl)
  obtain ⟨d_Hearing_ear, F_Hearing_ear, B_Hearing_ear⟩ := fun_at (st := s_Hearing_ear) (ps := ["self", "letter", "thing"]) l_Hearing_ear e_Hearing_ear kk_Hearing_ear (fun _ _ _ _ _ _ us hl => match us, hl with | [_, _, _], _ => rfl)
  obtain ⟨d__law_hand, F__law_hand, B__law_hand⟩ := fun_at (st := s__law_hand) (ps := ["script"]) l__law_hand e__law_hand kk__law_hand (fun _ _ _ _ _ _ us hl => match us, hl with | [_], _ => rfl)
  obtain ⟨d__law_draw, F__law_draw, B__law_draw⟩ := fun_at (st := s__law_draw) (ps := ["hand", "many"]) l__law_draw e__law_draw kk__law_draw (fun _ _ _ _ _ _ us hl => match us, hl with | [_, _], _ => rfl)
  obtain ⟨d__law_some, F__law_some, B__law_some⟩ := fun_at (st := s__law_some) (ps := ["hand", "things"]) l__law_some e__law_some kk__law_some (fun _ _ _ _ _ _ us hl => match us, hl with | [_, _], _ => rfl)
  obtain ⟨d__law_is, F__law_is, B__law_is⟩ := fun_at (st := s__law_is) (ps := ["told", "due"]) l__law_is e__law_is kk__law_is (fun _ _ _ _ _ _ us hl => match us, hl with | [_, _], _ => rfl)
  obtain ⟨d__law_signs, F__law_signs, B__law_signs⟩ := fun_at (st := s__law_signs) (ps := []) l__law_signs e__law_signs kk__law_signs (fun _ _ _ _ _ _ us hl => match us, hl with | [], _ => rfl)
  obtain ⟨d__law_word, F__law_word, B__law_word⟩ := fun_at (st := s__law_word) (ps := ["hand"]) l__law_word e__law_word kk__law_word (fun _ _ _ _ _ _ us hl => match us, hl with | [_], _ => rfl)
  obtain ⟨d__law_is_number, F__law_is_number, B__law_is_number⟩ := fun_at (st := s__law_is_number) (ps := ["thing", "many"]) l__law_is_number e__law_is_number kk__law_is_number (fun _ _ _ _ _ _ us hl => match us, hl with | [_, _], _ => rfl)
  obtain ⟨d__law_is_thing, F__law_is_thing, B__law_is_thing⟩ := fun_at (st := s__law_is_thing) (ps := ["thing"]) l__law_is_thing e__law_is_thing kk__law_is_thing (fun _ _ _ _ _ _ us hl => match us, hl with | [_], _ => rfl)
  obtain ⟨d__law_thing, F__law_thing, B__law_thing⟩ := fun_at (st := s__law_thing) (ps := ["hand", "deep"]) l__law_thing e__law_thing kk__law_thing (fun _ _ _ _ _ _ us hl => match us, hl with | [_, _], _ => rfl)
  obtain ⟨d__law_wrapped, F__law_wrapped, B__law_wrapped⟩ := fun_at (st := s__law_wrapped) (ps := ["thing", "many", "kind"]) l__law_wrapped e__law_wrapped kk__law_wrapped (fun _ _ _ _ _ _ us hl => match us, hl with | [_, _, _], _ => rfl)
  obtain ⟨d__law_rising, F__law_rising, B__law_rising⟩ := fun_at (st := s__law_rising) (ps := ["thing"]) l__law_rising e__law_rising kk__law_rising (fun _ _ _ _ _ _ us hl => match us, hl with | [_], _ => rfl)
  obtain ⟨d__law_part, F__law_part, B__law_part⟩ := fun_at (st := s__law_part) (ps := ["gone", "turns"]) l__law_part e__law_part kk__law_part (fun _ _ _ _ _ _ us hl => match us, hl with | [_, _], _ => rfl)
  obtain ⟨d__law_made, F__law_made, B__law_made⟩ := fun_at (st := s__law_made) (ps := ["gone", "turns"]) l__law_made e__law_made kk__law_made (fun _ _ _ _ _ _ us hl => match us, hl with | [_, _], _ => rfl)
  obtain ⟨d__law_odd, F__law_odd, B__law_odd⟩ := fun_at (st := s__law_odd) (ps := ["hand"]) l__law_odd e__law_odd kk__law_odd (fun _ _ _ _ _ _ us hl => match us, hl with | [_], _ => rfl)
  obtain ⟨d__law_ear, F__law_ear, B__law_ear⟩ := fun_at (st := s__law_ear) (ps := ["letter", "thing"]) l__law_ear e__law_ear kk__law_ear (fun _ _ _ _ _ _ us hl => match us, hl with | [_, _], _ => rfl)
  obtain ⟨d__law_spoilt, F__law_spoilt, B__law_spoilt⟩ := fun_at (st := s__law_spoilt) (ps := ["hand", "rows", "other"]) l__law_spoilt e__law_spoilt kk__law_spoilt (fun _ _ _ _ _ _ us hl => match us, hl with | [_, _, _], _ => rfl)
  obtain ⟨d__law_twin, F__law_twin, B__law_twin⟩ := fun_at (st := s__law_twin) (ps := ["thing"]) l__law_twin e__law_twin kk__law_twin (fun _ _ _ _ _ _ us hl => match us, hl with | [_], _ => rfl)
  obtain ⟨d__law_hears, F__law_hears, B__law_hears⟩ := fun_at (st := s__law_hears) (ps := ["faults", "gone", "turns", "thing"]) l__law_hears e__law_hears kk__law_hears (fun _ _ _ _ _ _ us hl => match us, hl with | [_, _, _, _], _ => rfl)
  obtain ⟨d_law, F_law, B_law⟩ := fun_at (st := s_law) (ps := ["script"]) l_law e_law kk_law (fun _ _ _ _ _ _ us hl => match us, hl with | [_], _ => rfl)
  let a : Adr := { a_is_integer := a_is_integer, d_is_integer := d_is_integer, a_is_between := a_is_between, d_is_between := d_is_between, a_is_sized := a_is_sized, d_is_sized := d_is_sized, a_is_lot := a_is_lot, d_is_lot := d_is_lot, a_is_leaf := a_is_leaf, d_is_leaf := d_is_leaf, a_is_thing := a_is_thing, d_is_thing := d_is_thing, a_BadFaults___init__ := a_BadFaults___init__, d_BadFaults___init__ := d_BadFaults___init__, a_is_turn := a_is_turn, d_is_turn := d_is_turn, a_first_wrong := a_first_wrong, d_first_wrong := d_first_wrong, a_Faults___init__ := a_Faults___init__, d_Faults___init__ := d_Faults___init__, a_Faults___eq__ := a_Faults___eq__, d_Faults___eq__ := d_Faults___eq__, a_Faults_ear := a_Faults_ear, d_Faults_ear := d_Faults_ear, a_Hearing___init__ := a_Hearing___init__, d_Hearing___init__ := d_Hearing___init__, a_Hearing_ear := a_Hearing_ear, d_Hearing_ear := d_Hearing_ear, a__law_hand := a__law_hand, d__law_hand := d__law_hand, a__law_draw := a__law_draw, d__law_draw := d__law_draw, a__law_some := a__law_some, d__law_some := d__law_some, a__law_is := a__law_is, d__law_is := d__law_is, a__law_signs := a__law_signs, d__law_signs := d__law_signs, a__law_word := a__law_word, d__law_word := d__law_word, a__law_is_number := a__law_is_number, d__law_is_number := d__law_is_number, a__law_is_thing := a__law_is_thing, d__law_is_thing := d__law_is_thing, a__law_thing := a__law_thing, d__law_thing := d__law_thing, a__law_wrapped := a__law_wrapped, d__law_wrapped := d__law_wrapped, a__law_rising := a__law_rising, d__law_rising := d__law_rising, a__law_part := a__law_part, d__law_part := d__law_part, a__law_made := a__law_made, d__law_made := d__law_made, a__law_odd := a__law_odd, d__law_odd := d__law_odd, a__law_ear := a__law_ear, d__law_ear := d__law_ear, a__law_spoilt := a__law_spoilt, d__law_spoilt := d__law_spoilt, a__law_twin := a__law_twin, d__law_twin := d__law_twin, a__law_hears := a__law_hears, d__law_hears := d__law_hears, a_law := a_law, d_law := d_law, c_TalkError := c_TalkError, c_BadFaults := c_BadFaults, c_Faults := c_Faults, c_Hearing := c_Hearing }
  have T : Txt K mg a := {
    f_is_integer := F_is_integer, b_is_integer := B_is_integer, kp_is_integer := kk_is_integer,
    mg_is_integer := PySem.W.mg_of X G n_is_integer,
    f_is_between := F_is_between, b_is_between := B_is_between, kp_is_between := kk_is_between,
    mg_is_between := PySem.W.mg_of X G n_is_between,
    f_is_sized := F_is_sized, b_is_sized := B_is_sized, kp_is_sized := kk_is_sized,
    mg_is_sized := PySem.W.mg_of X G n_is_sized,
    f_is_lot := F_is_lot, b_is_lot := B_is_lot, kp_is_lot := kk_is_lot,
    mg_is_lot := PySem.W.mg_of X G n_is_lot,
    f_is_leaf := F_is_leaf, b_is_leaf := B_is_leaf, kp_is_leaf := kk_is_leaf,
    mg_is_leaf := PySem.W.mg_of X G n_is_leaf,
    f_is_thing := F_is_thing, b_is_thing := B_is_thing, kp_is_thing := kk_is_thing,
    mg_is_thing := PySem.W.mg_of X G n_is_thing,
    f_BadFaults___init__ := F_BadFaults___init__, b_BadFaults___init__ := B_BadFaults___init__, kp_BadFaults___init__ := kk_BadFaults___init__,
    f_is_turn := F_is_turn, b_is_turn := B_is_turn, kp_is_turn := kk_is_turn,
    mg_is_turn := PySem.W.mg_of X G n_is_turn,
    f_first_wrong := F_first_wrong, b_first_wrong := B_first_wrong, kp_first_wrong := kk_first_wrong,
    mg_first_wrong := PySem.W.mg_of X G n_first_wrong,
    f_Faults___init__ := F_Faults___init__, b_Faults___init__ := B_Faults___init__, kp_Faults___init__ := kk_Faults___init__,
    f_Faults___eq__ := F_Faults___eq__, b_Faults___eq__ := B_Faults___eq__, kp_Faults___eq__ := kk_Faults___eq__,
    f_Faults_ear := F_Faults_ear, b_Faults_ear := B_Faults_ear, kp_Faults_ear := kk_Faults_ear,
    f_Hearing___init__ := F_Hearing___init__, b_Hearing___init__ := B_Hearing___init__, kp_Hearing___init__ := kk_Hearing___init__,
    f_Hearing_ear := F_Hearing_ear, b_Hearing_ear := B_Hearing_ear, kp_Hearing_ear := kk_Hearing_ear,
    f__law_hand := F__law_hand, b__law_hand := B__law_hand, kp__law_hand := kk__law_hand,
    mg__law_hand := PySem.W.mg_of X G n__law_hand,
    f__law_draw := F__law_draw, b__law_draw := B__law_draw, kp__law_draw := kk__law_draw,
    mg__law_draw := PySem.W.mg_of X G n__law_draw,
    f__law_some := F__law_some, b__law_some := B__law_some, kp__law_some := kk__law_some,
    mg__law_some := PySem.W.mg_of X G n__law_some,
    f__law_is := F__law_is, b__law_is := B__law_is, kp__law_is := kk__law_is,
    mg__law_is := PySem.W.mg_of X G n__law_is,
    f__law_signs := F__law_signs, b__law_signs := B__law_signs, kp__law_signs := kk__law_signs,
    mg__law_signs := PySem.W.mg_of X G n__law_signs,
    f__law_word := F__law_word, b__law_word := B__law_word, kp__law_word := kk__law_word,
    mg__law_word := PySem.W.mg_of X G n__law_word,
    f__law_is_number := F__law_is_number, b__law_is_number := B__law_is_number, kp__law_is_number := kk__law_is_number,
    mg__law_is_number := PySem.W.mg_of X G n__law_is_number,
    f__law_is_thing := F__law_is_thing, b__law_is_thing := B__law_is_thing, kp__law_is_thing := kk__law_is_thing,
    mg__law_is_thing := PySem.W.mg_of X G n__law_is_thing,
    f__law_thing := F__law_thing, b__law_thing := B__law_thing, kp__law_thing := kk__law_thing,
    mg__law_thing := PySem.W.mg_of X G n__law_thing,
    f__law_wrapped := F__law_wrapped, b__law_wrapped := B__law_wrapped, kp__law_wrapped := kk__law_wrapped,
    mg__law_wrapped := PySem.W.mg_of X G n__law_wrapped,
    f__law_rising := F__law_rising, b__law_rising := B__law_rising, kp__law_rising := kk__law_rising,
    mg__law_rising := PySem.W.mg_of X G n__law_rising,
    f__law_part := F__law_part, b__law_part := B__law_part, kp__law_part := kk__law_part,
    mg__law_part := PySem.W.mg_of X G n__law_part,
    f__law_made := F__law_made, b__law_made := B__law_made, kp__law_made := kk__law_made,
    mg__law_made := PySem.W.mg_of X G n__law_made,
    f__law_odd := F__law_odd, b__law_odd := B__law_odd, kp__law_odd := kk__law_odd,
    mg__law_odd := PySem.W.mg_of X G n__law_odd,
    f__law_ear := F__law_ear, b__law_ear := B__law_ear, kp__law_ear := kk__law_ear,
    mg__law_ear := PySem.W.mg_of X G n__law_ear,
    f__law_spoilt := F__law_spoilt, b__law_spoilt := B__law_spoilt, kp__law_spoilt := kk__law_spoilt,
    mg__law_spoilt := PySem.W.mg_of X G n__law_spoilt,
    f__law_twin := F__law_twin, b__law_twin := B__law_twin, kp__law_twin := kk__law_twin,
    mg__law_twin := PySem.W.mg_of X G n__law_twin,
    f__law_hears := F__law_hears, b__law_hears := B__law_hears, kp__law_hears := kk__law_hears,
    mg__law_hears := PySem.W.mg_of X G n__law_hears,
    f_law := F_law, b_law := B_law, kp_law := kk_law,
    mg_law := PySem.W.mg_of X G n_law,
    mg_Faults := PySem.W.mg_of X G m_Faults,
    mk_Faults := ⟨mm_Faults, n_Faults___init__, mf_Faults, mk_Faults⟩,
    me_Faults_ear := ⟨n_Faults_ear, mef_Faults_ear, kk_Faults_ear⟩,
    eq_Faults := n_Faults___eq__, eqf_Faults := ef_Faults,
    mg_Hearing := PySem.W.mg_of X G m_Hearing,
    mk_Hearing := ⟨mm_Hearing, n_Hearing___init__, mf_Hearing, mk_Hearing⟩,
    me_Hearing_ear := ⟨n_Hearing_ear, mef_Hearing_ear, kk_Hearing_ear⟩,
    cl := fun c => match c with | 1 => ⟨pg_Hearing, hd_Hearing, po_Hearing, sa_Hearing⟩ | 0 => ⟨pg_Faults, hd_Faults, po_Faults, sa_Faults⟩ | _ + 2 => ⟨pg_Faults, hd_Faults, po_Faults, sa_Faults⟩,
    insTy := fun c => match c with | 1 => ⟨⟨pg_Hearing, hd_Hearing, po_Hearing, sa_Hearing⟩, ca_Hearing, cg, ct, cm_Hearing, ci_Hearing, cy_Hearing, nb_mk nb_bool_Hearing nb_int_Hearing nb_str_Hearing nb_tuple_Hearing nb_list_Hearing nb_dict_Hearing⟩ | 0 => ⟨⟨pg_Faults, hd_Faults, po_Faults, sa_Faults⟩, ca_Faults, cg, ct, cm_Faults, ci_Faults, cy_Faults, nb_mk nb_bool_Faults nb_int_Faults nb_str_Faults nb_tuple_Faults nb_list_Faults nb_dict_Faults⟩ | _ + 2 => ⟨⟨pg_Faults, hd_Faults, po_Faults, sa_Faults⟩, ca_Faults, cg, ct, cm_Faults, ci_Faults, cy_Faults, nb_mk nb_bool_Faults nb_int_Faults nb_str_Faults nb_tuple_Faults nb_list_Faults nb_dict_Faults⟩,
    unl := fun c c' h1 h2 ne => match c, c', h1, h2, ne with | 0, 0, _, _, ne => (ne rfl).elim | 0, 1, _, _, _ => kit_sub ci_Faults cy_Faults su_Faults_Faults su_Hearing_Faults | 1, 0, _, _, _ => kit_sub ci_Hearing cy_Hearing su_Hearing_Hearing su_Faults_Hearing | 1, 1, _, _, ne => (ne rfl).elim | _ + 2, _, h1, _, _ => absurd h1 (by omega) | _, _ + 2, _, h2, _ => absurd h2 (by omega),
    apt := fun c c' h1 h2 ne => match c, c', h1, h2, ne with | 0, 0, _, _, ne => (ne rfl).elim | 0, 1, _, _, _ => su_Hearing_Faults | 1, 0, _, _, _ => su_Faults_Hearing | 1, 1, _, _, ne => (ne rfl).elim | _ + 2, _, h1, _, _ => absurd h1 (by omega) | _, _ + 2, _, h2, _ => absurd h2 (by omega),
    na_part := fun c => match c with | 1 => na_part_Hearing | 0 => na_part_Faults | _ + 2 => na_part_Faults,
    na_lost := fun c => match c with | 1 => na_lost_Hearing | 0 => na_lost_Faults | _ + 2 => na_lost_Faults,
    na_turned := fun c => match c with | 1 => na_turned_Hearing | 0 => na_turned_Faults | _ + 2 => na_turned_Faults,
    na_hearing := fun c => match c with | 1 => na_hearing_Hearing | 0 => na_hearing_Faults | _ + 2 => na_hearing_Faults,
    exT := fun c => match c with | 1 => ⟨cix_BadFaults, gx_BadFaults, gg_BadFaults, sb_BadFaults, cx_BadFaults, cg, ct, mx_BadFaults⟩ | 0 => ⟨cix_TalkError, gx_TalkError, gg_TalkError, sb_TalkError, cx_TalkError, cg, ct, mx_TalkError⟩ | _ + 2 => ⟨cix_TalkError, gx_TalkError, gg_TalkError, sb_TalkError, cx_TalkError, cg, ct, mx_TalkError⟩,
    mgx_BadFaults := PySem.W.mg_of X G m_BadFaults,
    mgx_TalkError := PySem.W.mg_of X G m_TalkError,
    exm_BadFaults := fun c => match c with | 1 => PySem.W.exm_ref sb_BadFaults hx_BadFaults ty_BadFaults su_BadFaults_BadFaults | 0 => PySem.W.exm_ref sb_BadFaults hx_BadFaults ty_BadFaults su_TalkError_BadFaults | _ + 2 => PySem.W.exm_ref sb_BadFaults hx_BadFaults ty_BadFaults su_TalkError_BadFaults,
    kit_TalkError := fun c => match c with | 1 => kit_sub cix_TalkError ty_TalkError su_TalkError_TalkError su_BadFaults_TalkError | 0 => kit_sub cix_TalkError ty_TalkError su_TalkError_TalkError su_TalkError_TalkError | _ + 2 => kit_sub cix_TalkError ty_TalkError su_TalkError_TalkError su_TalkError_TalkError,
    kit_ValueError := fun c => match c with | 1 => kit_subT rfl su_BadFaults_ValueError | 0 => kit_subT rfl su_TalkError_ValueError | _ + 2 => kit_subT rfl su_TalkError_ValueError,
    oex_BadFaults := ⟨⟨nm_BadFaults, q_BadFaults, N_BadFaults, bs_BadFaults, _, sn_BadFaults, sub_BadFaults, ab_BadFaults, col_BadFaults, dd_BadFaults, k0_BadFaults, k1_BadFaults, k2_BadFaults, k3_BadFaults, k5_BadFaults, xl_BadFaults, rfl⟩, sxx_BadFaults, sb_BadFaults, ty_BadFaults, kx_BadFaults⟩,
    xf_BadFaults := ⟨gx_BadFaults, gg_BadFaults, sb_BadFaults, hx_BadFaults⟩, ini_BadFaults := n_BadFaults___init__, tyf_BadFaults := ti_BadFaults, nof_BadFaults := nf_BadFaults,
    k_MOST_LETTERS := ⟨_, PySem.W.mg_of X G q_MOST_LETTERS, ⟨_, rfl⟩⟩,
    b_ValueError := PySem.W.mg_none_of X G b_ValueError,
    b_abs := PySem.W.mg_none_of X G b_abs,
    b_all := PySem.W.mg_none_of X G b_all,
    b_bool := PySem.W.mg_none_of X G b_bool,
    b_enumerate := PySem.W.mg_none_of X G b_enumerate,
    b_int := PySem.W.mg_none_of X G b_int,
    b_isinstance := PySem.W.mg_none_of X G b_isinstance,
    b_len := PySem.W.mg_none_of X G b_len,
    b_list := PySem.W.mg_none_of X G b_list,
    b_range := PySem.W.mg_none_of X G b_range,
    b_str := PySem.W.mg_none_of X G b_str,
    b_tuple := PySem.W.mg_none_of X G b_tuple,
    b_zip := PySem.W.mg_none_of X G b_zip }
  exact ⟨a, T, PySem.W.mg_of X G n_law⟩
theorem walk {l : PySem.W.OpenLaw} {q : Program} {loose : List Str} {XP : (Str → Option Value) → Heap → Prop} {YP : World → Heap → Prop} {d : DefRec} {K : Params → PySem.W.Frag} (hn : l.most = some 63) (hdf : d.params.defaults = []) (hnm : d.name = "law")
    (hY : ∀ (w : World) (h : Heap), YP w h → (K w.params).In h)
    (F : ∀ (w : World) (mg : Str → Option Value) (h : Heap), (K w.params).In h → h.Ns mainGlobals mg → ∃ a : Adr, Txt (K w.params) mg a ∧ mg "law" = some (.ref a.a_law))
    (main : ∀ ns : List Int, ns.length ≤ 63 → ∃ bs, sem_law [.fz (.scr ns)] = .val (.bl true) bs) :
    PySem.W.WalkO q loose XP YP l.row.toRowW d [] (fun f vs => PySem.call f vs) := by
  refine Att.attach_call hn hdf fun w s₀ s₁ mg mb fa o pm cd doc a vs ns G Y ho hd hcd hmg hobj hints hlen hg => ?_
  have KX := hY w _ Y
  obtain ⟨ad, T, hlaw⟩ := F w mg _ KX G.T.g
  rw [hnm] at hmg
  obtain rfl : fa = ad.a_law := by
    rw [hmg] at hlaw
    injection (Option.some.inj hlaw)
  obtain ⟨oc, od, kV, dc, pm', an, cdv, ct, osl, efd, _, _⟩ := T.f_law.ex
  refine law_call (CX := L2.CX l.prog w) (k := 53) (fd := ad.d_law) (x := "script") (sp := spF (gm (K w.params) ad) 1 sem_law) KX G.T.g G.T.b G.T.builtins G.T.nolimit hg hobj hints (Nat.le_trans hlen (by decide)) ⟨rfl, by decide, by decide⟩ (fun base _ _ => ok_law T base) (fun s u => by rw [efd]; exact .of_eq rfl) (fun H hO hS => law_sp hO hS (main ns hlen)) fun H e s' z => ?_
  obtain ⟨_, _, _, _, _, _, _, _, _, _, _, _, z⟩ := z
  exact z
end Law

open PySem PySem.W PyProof.Rows in
set_option maxRecDepth 100000 in
set_option maxHeartbeats 0 in
theorem PySem.Challenge.cw_turnedtalk_k11_whole_faults_holds : PySem.Challenge.rw_turnedtalk_k11_whole_faults.Holds := by
  w_on; o_law; k_head; (case hw => w_witness2)
  k_fill
  refine Law.walk (l := PySem.Challenge.rw_turnedtalk_k11_whole_faults) rfl rfl (by decide +kernel) (fun w h Y => PySem.W.kIn_of Y) ?F Law.main
  case F =>
    intro w mg h KX G
    refine' Law.all_mk KX G ?m_TalkError ?m_BadFaults ?m_Faults ?m_Hearing ?n_is_integer ?l_is_integer ?e_is_integer ?kk_is_integer ?n_is_between ?l_is_between ?e_is_between ?kk_is_between ?n_is_sized ?l_is_sized ?e_is_sized ?kk_is_sized ?n_is_lot ?l_is_lot ?e_is_lot ?kk_is_lot ?n_is_leaf ?l_is_leaf ?e_is_leaf ?kk_is_leaf ?n_is_thing ?l_is_thing ?e_is_thing ?kk_is_thing ?n_BadFaults___init__ ?l_BadFaults___init__ ?e_BadFaults___init__ ?kk_BadFaults___init__ ?n_is_turn ?l_is_turn ?e_is_turn ?kk_is_turn ?n_first_wrong ?l_first_wrong ?e_first_wrong ?kk_first_wrong ?n_Faults___init__ ?l_Faults___init__ ?e_Faults___init__ ?kk_Faults___init__ ?n_Faults___eq__ ?l_Faults___eq__ ?e_Faults___eq__ ?kk_Faults___eq__ ?n_Faults_ear ?l_Faults_ear ?e_Faults_ear ?kk_Faults_ear ?n_Hearing___init__ ?l_Hearing___init__ ?e_Hearing___init__ ?kk_Hearing___init__ ?n_Hearing_ear ?l_Hearing_ear ?e_Hearing_ear ?kk_Hearing_ear ?n__law_hand ?l__law_hand ?e__law_hand ?kk__law_hand ?n__law_draw ?l__law_draw ?e__law_draw ?kk__law_draw ?n__law_some ?l__law_some ?e__law_some ?kk__law_some ?n__law_is ?l__law_is ?e__law_is ?kk__law_is ?n__law_signs ?l__law_signs ?e__law_signs ?kk__law_signs ?n__law_word ?l__law_word ?e__law_word ?kk__law_word ?n__law_is_number ?l__law_is_number ?e__law_is_number ?kk__law_is_number ?n__law_is_thing ?l__law_is_thing ?e__law_is_thing ?kk__law_is_thing ?n__law_thing ?l__law_thing ?e__law_thing ?kk__law_thing ?n__law_wrapped ?l__law_wrapped ?e__law_wrapped ?kk__law_wrapped ?n__law_rising ?l__law_rising ?e__law_rising ?kk__law_rising ?n__law_part ?l__law_part ?e__law_part ?kk__law_part ?n__law_made ?l__law_made ?e__law_made ?kk__law_made ?n__law_odd ?l__law_odd ?e__law_odd ?kk__law_odd ?n__law_ear ?l__law_ear ?e__law_ear ?kk__law_ear ?n__law_spoilt ?l__law_spoilt ?e__law_spoilt ?kk__law_spoilt ?n__law_twin ?l__law_twin ?e__law_twin ?kk__law_twin ?n__law_hears ?l__law_hears ?e__law_hears ?kk__law_hears ?n_law ?l_law ?e_law ?kk_law ?pg_Faults ?hd_Faults ?po_Faults ?sa_Faults ?ca_Faults ?cm_Faults ?ci_Faults ?cy_Faults ?nb_bool_Faults ?nb_int_Faults ?nb_str_Faults ?nb_tuple_Faults ?nb_list_Faults ?nb_dict_Faults ?su_Faults_Faults ?su_Hearing_Faults ?mm_Faults ?mf_Faults ?mk_Faults ?mef_Faults_ear ?ef_Faults ?na_part_Faults ?na_lost_Faults ?na_turned_Faults ?na_hearing_Faults ?pg_Hearing ?hd_Hearing ?po_Hearing ?sa_Hearing ?ca_Hearing ?cm_Hearing ?ci_Hearing ?cy_Hearing ?nb_bool_Hearing ?nb_int_Hearing ?nb_str_Hearing ?nb_tuple_Hearing ?nb_list_Hearing ?nb_dict_Hearing ?su_Faults_Hearing ?su_Hearing_Hearing ?mm_Hearing ?mf_Hearing ?mk_Hearing ?mef_Hearing_ear ?na_part_Hearing ?na_lost_Hearing ?na_turned_Hearing ?na_hearing_Hearing ?sb_TalkError ?ty_TalkError ?hx_TalkError ?gx_TalkError ?gg_TalkError ?cx_TalkError ?mx_TalkError ?cix_TalkError ?kx_TalkError ?sb_BadFaults ?ty_BadFaults ?hx_BadFaults ?gx_BadFaults ?gg_BadFaults ?cx_BadFaults ?mx_BadFaults ?cix_BadFaults ?kx_BadFaults ?xl_BadFaults ?sxx_BadFaults ?nf_BadFaults ?ti_BadFaults ?su_TalkError_BadFaults ?su_BadFaults_BadFaults ?su_TalkError_TalkError ?su_BadFaults_TalkError ?su_TalkError_ValueError ?su_BadFaults_ValueError ?cg ?ct ?q_MOST_LETTERS ?b_ValueError ?b_abs ?b_all ?b_bool ?b_enumerate ?b_int ?b_isinstance ?b_len ?b_list ?b_range ?b_str ?b_tuple ?b_zip
    (case m_TalkError => k_is)
    (case m_BadFaults => k_is)
    (case m_Faults => k_is)
    (case m_Hearing => k_is)
    (case n_is_integer => k_is)
    (case l_is_integer => k_is)
    (case e_is_integer => k_is)
    (case kk_is_integer => k_is)
    (case n_is_between => k_is)
    (case l_is_between => k_is)
    (case e_is_between => k_is)
    (case kk_is_between => k_is)
    (case n_is_sized => k_is)
    (case l_is_sized => k_is)
    (case e_is_sized => k_is)
    (case kk_is_sized => k_is)
    (case n_is_lot => k_is)
    (case l_is_lot => k_is)
    (case e_is_lot => k_is)
    (case kk_is_lot => k_is)
    (case n_is_leaf => k_is)
    (case l_is_leaf => k_is)
    (case e_is_leaf => k_is)
    (case kk_is_leaf => k_is)
    (case n_is_thing => k_is)
    (case l_is_thing => k_is)
    (case e_is_thing => k_is)
    (case kk_is_thing => k_is)
    (case n_BadFaults___init__ => k_is)
    (case l_BadFaults___init__ => k_is)
    (case e_BadFaults___init__ => k_is)
    (case kk_BadFaults___init__ => k_is)
    (case n_is_turn => k_is)
    (case l_is_turn => k_is)
    (case e_is_turn => k_is)
    (case kk_is_turn => k_is)
    (case n_first_wrong => k_is)
    (case l_first_wrong => k_is)
    (case e_first_wrong => k_is)
    (case kk_first_wrong => k_is)
    (case n_Faults___init__ => k_is)
    (case l_Faults___init__ => k_is)
    (case e_Faults___init__ => k_is)
    (case kk_Faults___init__ => k_is)
    (case n_Faults___eq__ => k_is)
    (case l_Faults___eq__ => k_is)
    (case e_Faults___eq__ => k_is)
    (case kk_Faults___eq__ => k_is)
    (case n_Faults_ear => k_is)
    (case l_Faults_ear => k_is)
    (case e_Faults_ear => k_is)
    (case kk_Faults_ear => k_is)
    (case n_Hearing___init__ => k_is)
    (case l_Hearing___init__ => k_is)
    (case e_Hearing___init__ => k_is)
    (case kk_Hearing___init__ => k_is)
    (case n_Hearing_ear => k_is)
    (case l_Hearing_ear => k_is)
    (case e_Hearing_ear => k_is)
    (case kk_Hearing_ear => k_is)
    (case n__law_hand => k_is)
    (case l__law_hand => k_is)
    (case e__law_hand => k_is)
    (case kk__law_hand => k_is)
    (case n__law_draw => k_is)
    (case l__law_draw => k_is)
    (case e__law_draw => k_is)
    (case kk__law_draw => k_is)
    (case n__law_some => k_is)
    (case l__law_some => k_is)
    (case e__law_some => k_is)
    (case kk__law_some => k_is)
    (case n__law_is => k_is)
    (case l__law_is => k_is)
    (case e__law_is => k_is)
    (case kk__law_is => k_is)
    (case n__law_signs => k_is)
    (case l__law_signs => k_is)
    (case e__law_signs => k_is)
    (case kk__law_signs => k_is)
    (case n__law_word => k_is)
    (case l__law_word => k_is)
    (case e__law_word => k_is)
    (case kk__law_word => k_is)
    (case n__law_is_number => k_is)
    (case l__law_is_number => k_is)
    (case e__law_is_number => k_is)
    (case kk__law_is_number => k_is)
    (case n__law_is_thing => k_is)
    (case l__law_is_thing => k_is)
    (case e__law_is_thing => k_is)
    (case kk__law_is_thing => k_is)
    (case n__law_thing => k_is)
    (case l__law_thing => k_is)
    (case e__law_thing => k_is)
    (case kk__law_thing => k_is)
    (case n__law_wrapped => k_is)
    (case l__law_wrapped => k_is)
    (case e__law_wrapped => k_is)
    (case kk__law_wrapped => k_is)
    (case n__law_rising => k_is)
    (case l__law_rising => k_is)
    (case e__law_rising => k_is)
    (case kk__law_rising => k_is)
    (case n__law_part => k_is)
    (case l__law_part => k_is)
    (case e__law_part => k_is)
    (case kk__law_part => k_is)
    (case n__law_made => k_is)
    (case l__law_made => k_is)
    (case e__law_made => k_is)
    (case kk__law_made => k_is)
    (case n__law_odd => k_is)
    (case l__law_odd => k_is)
    (case e__law_odd => k_is)
    (case kk__law_odd => k_is)
    (case n__law_ear => k_is)
    (case l__law_ear => k_is)
    (case e__law_ear => k_is)
    (case kk__law_ear => k_is)
    (case n__law_spoilt => k_is)
    (case l__law_spoilt => k_is)
    (case e__law_spoilt => k_is)
    (case kk__law_spoilt => k_is)
    (case n__law_twin => k_is)
    (case l__law_twin => k_is)
    (case e__law_twin => k_is)
    (case kk__law_twin => k_is)
    (case n__law_hears => k_is)
    (case l__law_hears => k_is)
    (case e__law_hears => k_is)
    (case kk__law_hears => k_is)
    (case n_law => k_is)
    (case l_law => k_is)
    (case e_law => k_is)
    (case kk_law => k_is)
    (case pg_Faults => k_is)
    (case hd_Faults => k_is)
    (case po_Faults => k_is)
    (case sa_Faults => k_is)
    (case ca_Faults => k_is)
    (case cm_Faults => k_is)
    (case ci_Faults => k_is)
    (case cy_Faults => k_is)
    (case nb_bool_Faults => k_is)
    (case nb_int_Faults => k_is)
    (case nb_str_Faults => k_is)
    (case nb_tuple_Faults => k_is)
    (case nb_list_Faults => k_is)
    (case nb_dict_Faults => k_is)
    (case su_Faults_Faults => k_is)
    (case su_Hearing_Faults => k_is)
    (case mm_Faults => k_is)
    (case mf_Faults => k_is)
    (case mk_Faults => k_is)
    (case mef_Faults_ear => k_is)
    (case ef_Faults => k_is)
    (case na_part_Faults => k_is)
    (case na_lost_Faults => k_is)
    (case na_turned_Faults => k_is)
    (case na_hearing_Faults => k_is)
    (case pg_Hearing => k_is)
    (case hd_Hearing => k_is)
    (case po_Hearing => k_is)
    (case sa_Hearing => k_is)
    (case ca_Hearing => k_is)
    (case cm_Hearing => k_is)
    (case ci_Hearing => k_is)
    (case cy_Hearing => k_is)
    (case nb_bool_Hearing => k_is)
    (case nb_int_Hearing => k_is)
    (case nb_str_Hearing => k_is)
    (case nb_tuple_Hearing => k_is)
    (case nb_list_Hearing => k_is)
    (case nb_dict_Hearing => k_is)
    (case su_Faults_Hearing => k_is)
    (case su_Hearing_Hearing => k_is)
    (case mm_Hearing => k_is)
    (case mf_Hearing => k_is)
    (case mk_Hearing => k_is)
    (case mef_Hearing_ear => k_is)
    (case na_part_Hearing => k_is)
    (case na_lost_Hearing => k_is)
    (case na_turned_Hearing => k_is)
    (case na_hearing_Hearing => k_is)
    (case sb_TalkError => k_is)
    (case ty_TalkError => k_is)
    (case hx_TalkError => k_is)
    (case gx_TalkError => k_is)
    (case gg_TalkError => k_is)
    (case cx_TalkError => k_is)
    (case mx_TalkError => k_is)
    (case cix_TalkError => k_is)
    (case kx_TalkError => k_is)
    (case sb_BadFaults => k_is)
    (case ty_BadFaults => k_is)
    (case hx_BadFaults => k_is)
    (case gx_BadFaults => k_is)
    (case gg_BadFaults => k_is)
    (case cx_BadFaults => k_is)
    (case mx_BadFaults => k_is)
    (case cix_BadFaults => k_is)
    (case kx_BadFaults => k_is)
    (case xl_BadFaults => k_is)
    (case sxx_BadFaults => k_is)
    (case nf_BadFaults => k_is)
    (case ti_BadFaults => k_is)
    (case su_TalkError_BadFaults => k_is)
    (case su_BadFaults_BadFaults => k_is)
    (case su_TalkError_TalkError => k_is)
    (case su_BadFaults_TalkError => k_is)
    (case su_TalkError_ValueError => k_is)
    (case su_BadFaults_ValueError => k_is)
    (case cg => k_is)
    (case ct => k_is)
    (case q_MOST_LETTERS => k_is)
    (case b_ValueError => k_is)
    (case b_abs => k_is)
    (case b_all => k_is)
    (case b_bool => k_is)
    (case b_enumerate => k_is)
    (case b_int => k_is)
    (case b_isinstance => k_is)
    (case b_len => k_is)
    (case b_list => k_is)
    (case b_range => k_is)
    (case b_str => k_is)
    (case b_tuple => k_is)
    (case b_zip => k_is)
