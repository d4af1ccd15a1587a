import PyProof.Rows.All
import Wide.All
import OpenK.AllK
import Wide.FinOn
import HandS.ForMost
import HandS.ForExc
import HandS.TryMany
import HandS.IsInst
import HandS.Zip
import HandS.Deep
import HandS.Walk
import HandS.Wide
import HandS.TupAny
import HandS.Conv
import PyProof.ListCopy
import HandS.More
import KE.GoesMore
import HandS.ExcInit
import HandS.ExcField
import HandS.ExcOwn
import HandS.WordsExc
import HandS.RaiseMore
import HandS.Small
import KE.KExcIs
import HandS.Style
import HandS.ExcIs
import HandS.Text
import HandS.ListItems
import KE.KDictZip
import KE.KItemsList
import HandS.Dict
import HandS.TupMul
import PyProof.StrOps2
import PyProof.SliceStr2
import KE.KRevSl
import PyProof.Rows.StrRev
import PySem.Challenge.RW_turnedtalk_k04_whole_programs_by_an_own
set_option Elab.async false
set_option linter.all false
set_option maxRecDepth 100000
set_option maxHeartbeats 4000000
namespace FL
open PySem PySem.Spec PyProof.Rows L2

/-! ## data -/
inductive D where
  | non | bl (b : Bool) | int (i : Int) | str (s : Str)
  | tup (xs : List D) | lst (xs : List D)
  | ins (c : Nat) (ns : List Str) (xs : List D)
  | scr (ns : List Int)
  | ty (n : String) | cls (c : Nat) | raw (n : Nat) | emp
  | dk (ks : List Key) (xs : List D) | dt (ks : List (List Key)) (xs : List D)
structure Gm where
  K : PySem.W.Frag
  cls : Nat → Addr
  xcl : Nat → Addr
  raw : Nat → V
mutual
def Rep (g : Gm) (F : Hp) : D → V → Prop
  | .non, v => v = .non
  | .bl b, v => v = .bl b
  | .int i, v => v = .int i
  | .str s, v => v = .str s
  | .tup ds, v => ∃ a xs, v = .ref a ∧ SqT g.K F a xs ∧ RepL g F ds xs
  | .lst ds, v => ∃ a xs, v = .ref a ∧ F a = some (.lst xs) ∧ RepL g F ds xs
  | .scr ns, v => ∃ a, v = .ref a ∧ SqL g.K F a (ns.map V.int)
  | .ty n, v => v = .ty n
  | .cls c, v => v = .ref (g.cls c)
  | .ins c ns ds, v => ∃ a dx xs, v = .ref a ∧ F a = some (.ins (g.cls c) dx (ns.zip xs)) ∧ ns.length = xs.length ∧ RepL g F ds xs
  | .raw n, v => v = g.raw n
  | .emp, v => ∃ a, v = .ref a ∧ F a = some (.dK [])
  | .dk ks ds, v => ∃ a xs, v = .ref a ∧ F a = some (.dK (ks.zip xs)) ∧ ks.length = xs.length ∧ RepL g F ds xs
  | .dt ks ds, v => ∃ a xs, v = .ref a ∧ F a = some (.dT (ks.zip xs)) ∧ ks.length = xs.length ∧ RepL g F ds xs
def RepL (g : Gm) (F : Hp) : List D → List V → Prop
  | [], vs => vs = []
  | d :: ds, vs => ∃ x xs, vs = x :: xs ∧ Rep g F d x ∧ RepL g F ds xs
end
theorem same_t {K : PySem.W.Frag} {H H' : Hp} {a : Addr} {xs : List V} (e : Same H H') (h : SqT K H a xs) : SqT K H' a xs := by
  rcases h with (h | ⟨o, h⟩) | h
  · exact .inl (.inl (e _ _ h))
  · exact .inl (.inr ⟨o, e _ _ h⟩)
  · exact .inr h
mutual
theorem Rep.mono {g : Gm} {F F' : Hp} (s : Same F F') : ∀ {d : D} {v : V}, Rep g F d v → Rep g F' d v
  | .non, _, h => h
  | .bl _, _, h => h
  | .int _, _, h => h
  | .str _, _, h => h
  | .tup _, _, h => by
    obtain ⟨a, xs, e, q, r⟩ := h
    exact ⟨a, xs, e, same_t s q, RepL.mono s r⟩
  | .lst _, _, h => by
    obtain ⟨a, xs, e, q, r⟩ := h
    exact ⟨a, xs, e, s _ _ q, RepL.mono s r⟩
  | .scr _, _, h => by
    obtain ⟨a, e, q⟩ := h
    exact ⟨a, e, s.seq q⟩
  | .ty _, _, h => h
  | .cls _, _, h => h
  | .ins _ _ _, _, h => by
    obtain ⟨a, dx, xs, e, q, l, r⟩ := h
    exact ⟨a, dx, xs, e, s _ _ q, l, RepL.mono s r⟩
  | .raw _, _, h => h
  | .emp, _, h => by
    obtain ⟨a, e, q⟩ := h
    exact ⟨a, e, s _ _ q⟩
  | .dk _ _, _, h => by
    obtain ⟨a, xs, e, q, l, r⟩ := h
    exact ⟨a, xs, e, s _ _ q, l, RepL.mono s r⟩
  | .dt _ _, _, h => by
    obtain ⟨a, xs, e, q, l, r⟩ := h
    exact ⟨a, xs, e, s _ _ q, l, RepL.mono s r⟩
theorem RepL.mono {g : Gm} {F F' : Hp} (s : Same F F') : ∀ {ds : List D} {vs : List V}, RepL g F ds vs → RepL g F' ds vs
  | [], _, h => h
  | d :: ds, _, h => by
    obtain ⟨x, xs, e, r, t⟩ := h
    exact ⟨x, xs, e, Rep.mono s r, RepL.mono s t⟩
end
section
variable {g : Gm} {F : Hp}
theorem RepL.length : ∀ {ds : List D} {vs : List V}, RepL g F ds vs → ds.length = vs.length
  | [], _, h => by cases (show _ = [] from h); rfl
  | d :: ds, _, h => by
    obtain ⟨x, xs, rfl, _, t⟩ := h
    simp [RepL.length t]
theorem RepL.nil : RepL g F [] [] := rfl
theorem RepL.cons {d : D} {ds : List D} {v : V} {vs : List V} (h : Rep g F d v) (t : RepL g F ds vs) : RepL g F (d :: ds) (v :: vs) := ⟨v, vs, rfl, h, t⟩
theorem RepL.get : ∀ {ds : List D} {vs : List V} {i : Nat} {d : D}, RepL g F ds vs → ds[i]? = some d → ∃ v, vs[i]? = some v ∧ Rep g F d v
  | [], _, _, _, _, e => by simp at e
  | d :: ds, _, 0, _, h, e => by
    obtain ⟨x, xs, rfl, r, _⟩ := h
    simp at e; subst e
    exact ⟨x, rfl, r⟩
  | d :: ds, _, i + 1, _, h, e => by
    obtain ⟨x, xs, rfl, _, t⟩ := h
    obtain ⟨v, a, b⟩ := RepL.get (i := i) t (by simpa using e)
    exact ⟨v, by simpa using a, b⟩
theorem RepL.append : ∀ {ds es : List D} {vs ws : List V}, RepL g F ds vs → RepL g F es ws → RepL g F (ds ++ es) (vs ++ ws)
  | [], _, _, _, h, k => by cases (show _ = [] from h); exact k
  | d :: ds, _, _, _, h, k => by
    obtain ⟨x, xs, rfl, r, t⟩ := h
    exact ⟨x, _, rfl, r, RepL.append t k⟩
theorem RepL.set : ∀ {ds : List D} {vs : List V} {i : Nat} {d : D} {v : V}, RepL g F ds vs → Rep g F d v → RepL g F (ds.set i d) (vs.set i v)
  | [], _, _, _, _, h, _ => by cases (show _ = [] from h); exact rfl
  | _ :: ds, _, 0, _, _, h, k => by
    obtain ⟨x, xs, rfl, r, t⟩ := h
    exact ⟨_, xs, rfl, k, t⟩
  | _ :: ds, _, i + 1, _, _, h, k => by
    obtain ⟨x, xs, rfl, r, t⟩ := h
    exact ⟨x, _, rfl, r, RepL.set t k⟩
theorem RepL.take : ∀ {ds : List D} {vs : List V} (n : Nat), RepL g F ds vs → RepL g F (ds.take n) (vs.take n)
  | _, _, 0, _ => rfl
  | [], _, n + 1, h => by cases (show _ = [] from h); exact rfl
  | _ :: ds, _, n + 1, h => by
    obtain ⟨x, xs, rfl, r, t⟩ := h
    exact ⟨x, _, rfl, r, RepL.take n t⟩
theorem RepL.drop : ∀ {ds : List D} {vs : List V} (n : Nat), RepL g F ds vs → RepL g F (ds.drop n) (vs.drop n)
  | _, _, 0, h => h
  | [], _, n + 1, h => by cases (show _ = [] from h); exact rfl
  | _ :: ds, _, n + 1, h => by
    obtain ⟨x, xs, rfl, r, t⟩ := h
    exact RepL.drop n t
theorem RepL.rep {ds : List D} {vs : List V} (h : RepL g F ds vs) : ∀ k : Nat, RepL g F (List.replicate k ds).flatten (List.replicate k vs).flatten
  | 0 => rfl
  | k + 1 => by
    rw [List.replicate_succ, List.replicate_succ, List.flatten_cons, List.flatten_cons]
    exact h.append (RepL.rep h k)
theorem RepL.dropLast : ∀ {ds : List D} {vs : List V}, RepL g F ds vs → RepL g F ds.dropLast vs.dropLast := fun {ds vs} h => by
  rw [List.dropLast_eq_take, List.dropLast_eq_take, h.length]
  exact h.take _
theorem RepL.reverse : ∀ {ds : List D} {vs : List V}, RepL g F ds vs → RepL g F ds.reverse vs.reverse
  | [], _, h => by cases (show _ = [] from h); exact rfl
  | d :: ds, _, h => by
    obtain ⟨x, xs, rfl, r, t⟩ := h
    rw [List.reverse_cons, List.reverse_cons]
    exact (RepL.reverse t).append ⟨_, _, rfl, r, rfl⟩
theorem RepL.ints : ∀ ns : List Int, RepL g F (ns.map D.int) (ns.map V.int)
  | [] => rfl
  | n :: ns => ⟨_, _, rfl, rfl, RepL.ints ns⟩
end

/-! ## slots -/
inductive Sl where
  | no | fz (d : D) | own (d : D) | bor (k : Nat) (d : D)
def Sl.cell : Sl → Option D
  | .own d => some d
  | .bor _ d => some d
  | _ => none
def Sl.put : Sl → D → Sl
  | .own _, d => .own d
  | .bor k _, d => .bor k d
  | s, _ => s
def Sl.cont : Sl → Option D
  | .fz d => some d
  | .own d => some d
  | .bor _ d => some d
  | .no => none
abbrev Nv := List Sl
/-- what stands in an owned cell -/
def OwnO (g : Gm) (F : Hp) : D → HO → Prop
  | .lst ds, o => ∃ xs, o = .lst xs ∧ RepL g F ds xs
  | .ins c ns ds, o => ∃ dx xs, o = .ins (g.cls c) dx (ns.zip xs) ∧ ns.length = xs.length ∧ RepL g F ds xs
  | .dk ks ds, o => ∃ xs, o = .dK (ks.zip xs) ∧ ks.length = xs.length ∧ RepL g F ds xs
  | .dt ks ds, o => ∃ xs, o = .dT (ks.zip xs) ∧ ks.length = xs.length ∧ RepL g F ds xs
  | _, _ => False
def OwnAt (g : Gm) (G F H : Hp) (p : Addr) (d : D) : Prop := F p = none ∧ G p = none ∧ ∃ o, H p = some o ∧ OwnO g F d o
theorem OwnO.mono {g : Gm} {F F' : Hp} (s : Same F F') {d : D} {o : HO} (h : OwnO g F d o) : OwnO g F' d o := by
  cases d with
  | lst ds => obtain ⟨xs, e, r⟩ := h; exact ⟨xs, e, r.mono s⟩
  | ins c ns ds => obtain ⟨dx, xs, e, l, r⟩ := h; exact ⟨dx, xs, e, l, r.mono s⟩
  | dk ks ds => obtain ⟨xs, e, l, r⟩ := h; exact ⟨xs, e, l, r.mono s⟩
  | dt ks ds => obtain ⟨xs, e, l, r⟩ := h; exact ⟨xs, e, l, r.mono s⟩
  | _ => exact h.elim
theorem OwnO.rep {g : Gm} {F : Hp} {d : D} {o : HO} {p : Addr} (h : OwnO g F d o) (q : F p = none) : Rep g (upd F p o) d (.ref p) := by
  have s : Same F (upd F p o) := fun b u e => by rw [upd_ne (ne_of_none e q)]; exact e
  cases d with
  | lst ds => obtain ⟨xs, rfl, r⟩ := h; exact ⟨p, xs, rfl, upd_same, r.mono s⟩
  | ins c ns ds => obtain ⟨dx, xs, rfl, l, r⟩ := h; exact ⟨p, dx, xs, rfl, upd_same, l, r.mono s⟩
  | dk ks ds => obtain ⟨xs, rfl, l, r⟩ := h; exact ⟨p, xs, rfl, upd_same, l, r.mono s⟩
  | dt ks ds => obtain ⟨xs, rfl, l, r⟩ := h; exact ⟨p, xs, rfl, upd_same, l, r.mono s⟩
  | _ => exact h.elim
theorem Same.new {H : Hp} {p : Addr} {o : HO} (h : H p = none) : Same H (upd H p o) := fun b u e => by rw [upd_ne (ne_of_none e h)]; exact e

/-- what a slot's new content asks -/
def SlNew (g : Gm) (ρ : Nat → Addr) (G F H : Hp) (p0 : Addr) : Sl → Option (Option V) → Prop
  | .no, _ => True
  | .fz d, x => ∃ v, x = some (some v) ∧ Rep g F d v
  | .own d, x => x = some (some (.ref p0)) ∧ OwnAt g G F H p0 d
  | .bor k d, x => ρ k = p0 ∧ x = some (some (.ref p0)) ∧ OwnAt g G F H p0 d
structure StOk (g : Gm) (ρ : Nat → Addr) (G : Hp) (E : Nv) (F : Hp) (σ : L2.St) (H : Hp) : Prop where
  sf : Same F H
  sg : Same G H
  dj : ∀ q o, G q = some o → F q = none
  len : E.length = σ.length
  fz : ∀ (i : Nat) d, E[i]? = some (.fz d) → ∃ v, σ[i]? = some (some v) ∧ Rep g F d v
  ow : ∃ ps : Nat → Addr, (∀ (i : Nat) s d, E[i]? = some s → s.cell = some d → σ[i]? = some (some (.ref (ps i))) ∧ OwnAt g G F H (ps i) d) ∧
    (∀ (i k : Nat) d, E[i]? = some (.bor k d) → ps i = ρ k) ∧
    (∀ (i j : Nat) s t d e, E[i]? = some s → s.cell = some d → E[j]? = some t → t.cell = some e → ps i = ps j → i = j)
section
variable {g : Gm} {ρ : Nat → Addr} {G G' F F' H H' : Hp} {E : Nv} {σ σ' : L2.St} {i : Nat} {p : Addr} {o : HO} {d : D} {s : Sl}
/-- all is kept but where slot i is -/
theorem StOk.slot (old : StOk g ρ G E F σ H) (hF : Same F F') (sf : Same F' H') (sg : Same G' H') (dj : ∀ q o, G' q = some o → F' q = none) (hl : σ'.length = σ.length) (hσ : ∀ j, j ≠ i → σ'[j]? = σ[j]?) (p0 : Addr)
    (keep : ∀ (j : Nat) t d p, j ≠ i → E[j]? = some t → t.cell = some d → σ[j]? = some (some (.ref p)) → OwnAt g G F H p d →
      (∀ t' d' p', E[i]? = some t' → t'.cell = some d' → σ[i]? = some (some (.ref p')) → p ≠ p') → OwnAt g G' F' H' p d ∧ (s.cell ≠ none → p ≠ p0))
    (new : i < E.length → SlNew g ρ G' F' H' p0 s σ'[i]?) : StOk g ρ G' (E.set i s) F' σ' H' := by
  obtain ⟨ps, h1, h2, h3⟩ := old.ow
  have dist : ∀ (j : Nat) t d, j ≠ i → E[j]? = some t → t.cell = some d → ∀ t' d' p', E[i]? = some t' → t'.cell = some d' → σ[i]? = some (some (.ref p')) → ps j ≠ p' := by
    intro j t d hj e1 e2 t' d' p' e3 e4 e5 q
    obtain ⟨e6, _⟩ := h1 i t' d' e3 e4
    rw [e5] at e6
    have e7 : p' = ps i := by injection (Option.some.inj (Option.some.inj e6))
    exact hj (h3 j i t t' d d' e1 e2 e3 e4 (q.trans e7))
  have kp : ∀ (j : Nat) t d, j ≠ i → E[j]? = some t → t.cell = some d → OwnAt g G' F' H' (ps j) d ∧ (s.cell ≠ none → ps j ≠ p0) := fun j t d hj e1 e2 =>
    keep j t d (ps j) hj e1 e2 (h1 j t d e1 e2).1 (h1 j t d e1 e2).2 (dist j t d hj e1 e2)
  have lt : ∀ {j : Nat} {t : Sl}, (E.set i s)[j]? = some t → j < E.length := fun {j t} e => by
    have := (List.getElem?_eq_some_iff.mp e).1
    simpa using this
  have at_i : ∀ {t : Sl}, (E.set i s)[i]? = some t → t = s := fun {t} e => by
    have hi := lt e
    rw [List.getElem?_set_self hi] at e
    exact (Option.some.inj e).symm
  refine ⟨sf, sg, dj, by rw [List.length_set, hl]; exact old.len, fun j d e => ?_, fun j => if j = i then p0 else ps j, fun j t d e c => ?_, fun j k d e => ?_, fun j k t u d e e1 c1 e2 c2 q => ?_⟩
  · by_cases hj : j = i
    · subst hj
      have hi := lt e
      have hs := at_i e
      have n := new hi
      subst hs
      exact n
    · rw [List.getElem?_set_ne (Ne.symm hj)] at e
      obtain ⟨v, a, b⟩ := old.fz j d e
      exact ⟨v, by rw [hσ j hj]; exact a, b.mono hF⟩
  · by_cases hj : j = i
    · subst hj
      have n := new (lt e)
      have hs := at_i e
      subst hs
      simp only [if_true]
      cases t with
      | no => cases c
      | fz _ => cases c
      | own x => cases c; exact n
      | bor k x => cases c; exact n.2
    · rw [List.getElem?_set_ne (Ne.symm hj)] at e
      simp only [if_neg hj]
      exact ⟨by rw [hσ j hj]; exact (h1 j t d e c).1, (kp j t d hj e c).1⟩
  · by_cases hj : j = i
    · subst hj
      have n := new (lt e)
      have hs := at_i e
      subst hs
      simp only [if_true]
      exact n.1.symm
    · rw [List.getElem?_set_ne (Ne.symm hj)] at e
      simp only [if_neg hj]
      exact h2 j k d e
  · by_cases hj : j = i <;> by_cases hk : k = i
    · rw [hj, hk]
    · rw [List.getElem?_set_ne (Ne.symm hk)] at e2
      subst hj
      have hs := at_i e1
      subst hs
      simp only [if_true, if_neg hk] at q
      exact absurd q.symm ((kp k u e hk e2 c2).2 (by rw [c1]; simp))
    · rw [List.getElem?_set_ne (Ne.symm hj)] at e1
      subst hk
      have hs := at_i e2
      subst hs
      simp only [if_true, if_neg hj] at q
      exact absurd q ((kp j t d hj e1 c1).2 (by rw [c2]; simp))
    · rw [List.getElem?_set_ne (Ne.symm hj)] at e1
      rw [List.getElem?_set_ne (Ne.symm hk)] at e2
      simp only [if_neg hj, if_neg hk] at q
      exact h3 j k t u d e e1 c1 e2 c2 q
/-- nothing of the slots changes -/
theorem StOk.same (old : StOk g ρ G E F σ H) (hF : Same F F') (sf : Same F' H') (sg : Same G' H') (dj : ∀ q o, G' q = some o → F' q = none)
    (keep : ∀ p d, OwnAt g G F H p d → OwnAt g G' F' H' p d) : StOk g ρ G' E F' σ H' := by
  obtain ⟨ps, h1, h2, h3⟩ := old.ow
  exact ⟨sf, sg, dj, old.len, fun i d e => let ⟨v, a, b⟩ := old.fz i d e; ⟨v, a, b.mono hF⟩, ps, fun i s d e c => ⟨(h1 i s d e c).1, keep _ _ (h1 i s d e c).2⟩, h2, h3⟩
theorem StOk.fF (st : StOk g ρ G E F σ H) (h : H p = none) : F p = none := st.sf.free h
theorem StOk.fG (st : StOk g ρ G E F σ H) (h : H p = none) : G p = none := st.sg.free h
/-- a new frozen object -/
theorem StOk.grow (st : StOk g ρ G E F σ H) (h : H p = none) (o : HO) : StOk g ρ G E (upd F p o) σ (upd H p o) := by
  have f := st.fF h
  have gn := st.fG h
  refine st.same (Same.new f) (fun b u e => ?_) (fun b u e => ?_) (fun q u e => ?_) fun q d ⟨a, b, u, c, e⟩ => ?_
  · by_cases hb : b = p
    · subst hb; rw [upd_same] at e ⊢; exact e
    · rw [upd_ne hb] at e ⊢; exact st.sf _ _ e
  · rw [upd_ne (ne_of_none e gn)]; exact st.sg _ _ e
  · rw [upd_ne (ne_of_none e gn)]; exact st.dj _ _ e
  · have n : q ≠ p := ne_of_none c h
    exact ⟨by rw [upd_ne n]; exact a, b, u, by rw [upd_ne n]; exact c, e.mono (Same.new f)⟩
/-- a new object of nobody -/
theorem StOk.temp (st : StOk g ρ G E F σ H) (h : H p = none) (o : HO) : StOk g ρ (upd G p o) E F σ (upd H p o) := by
  have f := st.fF h
  have gn := st.fG h
  refine st.same (Same.refl F) (fun b u e => ?_) (fun b u e => ?_) (fun q u e => ?_) fun q d ⟨a, b, u, c, e⟩ => ?_
  · rw [upd_ne (ne_of_none e f)]; exact st.sf _ _ e
  · by_cases hb : b = p
    · subst hb; rw [upd_same] at e ⊢; exact e
    · rw [upd_ne hb] at e ⊢; exact st.sg _ _ e
  · by_cases hb : q = p
    · subst hb; exact f
    · rw [upd_ne hb] at e; exact st.dj _ _ e
  · have n : q ≠ p := ne_of_none c h
    exact ⟨a, by rw [upd_ne n]; exact b, u, by rw [upd_ne n]; exact c, e⟩
/-- nobody's object is frozen -/
theorem StOk.freeze (st : StOk g ρ (upd G p o) E F σ H) (gn : G p = none) : StOk g ρ G E (upd F p o) σ H := by
  have f : F p = none := st.dj p o upd_same
  have hp : H p = some o := st.sg p o upd_same
  refine st.same (Same.new f) (fun b u e => ?_) (fun b u e => ?_) (fun q u e => ?_) fun q d ⟨a, b, u, c, e⟩ => ?_
  · by_cases hb : b = p
    · subst hb; rw [upd_same] at e; rw [← e]; exact hp
    · rw [upd_ne hb] at e; exact st.sf _ _ e
  · exact st.sg _ _ (by rw [upd_ne (ne_of_none e gn)]; exact e)
  · rw [upd_ne (ne_of_none e gn)]; exact st.dj q u (by rw [upd_ne (ne_of_none e gn)]; exact e)
  · have n : q ≠ p := fun z => by rw [z, upd_same] at b; cases b
    exact ⟨by rw [upd_ne n]; exact a, by rw [upd_ne n] at b; exact b, u, c, e.mono (Same.new f)⟩
/-- nobody's object, forgotten -/
theorem StOk.untemp (st : StOk g ρ (upd G p o) E F σ H) (gn : G p = none) : StOk g ρ G E F σ H := by
  refine st.same (Same.refl F) st.sf (fun b u e => st.sg _ _ (by rw [upd_ne (ne_of_none e gn)]; exact e)) (fun q u e => st.dj q u (by rw [upd_ne (ne_of_none e gn)]; exact e)) fun q d ⟨a, b, u, c, e⟩ => ?_
  have n : q ≠ p := fun z => by rw [z, upd_same] at b; cases b
  exact ⟨a, by rw [upd_ne n] at b; exact b, u, c, e⟩
/-- nobody's object is written -/
theorem StOk.rewrite {o' : HO} (st : StOk g ρ (upd G p o) E F σ H) (gn : G p = none) : StOk g ρ (upd G p o') E F σ (upd H p o') := by
  have f : F p = none := st.dj p o upd_same
  refine st.same (Same.refl F) (fun b u e => ?_) (fun b u e => ?_) (fun q u e => ?_) fun q d ⟨a, b, u, c, e⟩ => ?_
  · rw [upd_ne (ne_of_none e f)]; exact st.sf _ _ e
  · by_cases hb : b = p
    · subst hb; rw [upd_same] at e ⊢; exact e
    · rw [upd_ne hb] at e ⊢; exact st.sg _ _ (by rw [upd_ne hb]; exact e)
  · by_cases hb : q = p
    · subst hb; exact f
    · rw [upd_ne hb] at e; exact st.dj q u (by rw [upd_ne hb]; exact e)
  · have n : q ≠ p := fun z => by rw [z, upd_same] at b; cases b
    exact ⟨a, by rw [upd_ne n] at b ⊢; exact b, u, by rw [upd_ne n]; exact c, e⟩
/-- nobody's object comes to a slot -/
theorem StOk.take (st : StOk g ρ (upd G p o) E F σ H) (gn : G p = none) (ow : OwnO g F d o) : StOk g ρ G (E.set i (.own d)) F (σ.set i (some (.ref p))) H := by
  have f : F p = none := st.dj p o upd_same
  have hp : H p = some o := st.sg p o upd_same
  refine st.slot (Same.refl F) st.sf (fun b u e => st.sg _ _ (by rw [upd_ne (ne_of_none e gn)]; exact e)) (fun q u e => st.dj q u (by rw [upd_ne (ne_of_none e gn)]; exact e)) (by simp) (fun j hj => List.getElem?_set_ne (Ne.symm hj)) p (fun j t d q hj e1 e2 e3 ⟨a, b, u, c, e⟩ _ => ?_) fun hi => ⟨?_, f, gn, o, hp, ow⟩
  · have n : q ≠ p := fun z => by rw [z, upd_same] at b; cases b
    exact ⟨⟨a, by rw [upd_ne n] at b; exact b, u, c, e⟩, fun _ => n⟩
  · exact List.getElem?_set_self (by rw [← st.len]; exact hi)
/-- a frozen thing comes to a slot -/
theorem StOk.store {v : V} (st : StOk g ρ G E F σ H) (r : Rep g F d v) : StOk g ρ G (E.set i (.fz d)) F (σ.set i (some v)) H := by
  refine st.slot (Same.refl F) st.sf st.sg st.dj (by simp) (fun j hj => List.getElem?_set_ne (Ne.symm hj)) 0 (fun j t d q hj e1 e2 e3 ow _ => ⟨ow, fun z => absurd rfl z⟩) fun hi => ⟨v, ?_, r⟩
  exact List.getElem?_set_self (by rw [← st.len]; exact hi)
/-- a slot forgotten -/
theorem StOk.drop (st : StOk g ρ G E F σ H) (i : Nat) : StOk g ρ G (E.set i .no) F σ H :=
  st.slot (Same.refl F) st.sf st.sg st.dj rfl (fun _ _ => rfl) 0 (fun j t d q hj e1 e2 e3 ow _ => ⟨ow, fun z => absurd rfl z⟩) fun _ => trivial
/-- where a cell is -/
theorem StOk.at (st : StOk g ρ G E F σ H) (e : E[i]? = some s) (c : s.cell = some d) : ∃ p, σ[i]? = some (some (.ref p)) ∧ OwnAt g G F H p d := by
  obtain ⟨ps, h1, h2, h3⟩ := st.ow
  exact ⟨ps i, h1 i s d e c⟩
/-- an owned slot is given up, its object nobody's -/
theorem StOk.give (st : StOk g ρ G E F σ H) (e : E[i]? = some s) (c : s.cell = some d) (hσ : σ[i]? = some (some (.ref p))) (hp : H p = some o) : StOk g ρ (upd G p o) (E.set i .no) F σ H ∧ G p = none ∧ OwnO g F d o := by
  obtain ⟨p', e1, f, gn, u, hu, ow⟩ := st.at e c
  rw [hσ] at e1
  have : p = p' := by injection (Option.some.inj (Option.some.inj e1))
  subst this
  rw [hp] at hu; cases hu
  refine ⟨st.slot (Same.refl F) st.sf (fun b u e => ?_) (fun q u e => ?_) rfl (fun _ _ => rfl) 0 (fun j t d q hj e1 e2 e3 ow' ne => ⟨?_, fun z => absurd rfl z⟩) fun _ => trivial, gn, ow⟩
  · by_cases hb : b = p
    · subst hb; rw [upd_same] at e; rw [← e]; exact hp
    · rw [upd_ne hb] at e; exact st.sg _ _ e
  · by_cases hb : q = p
    · subst hb; exact f
    · rw [upd_ne hb] at e; exact st.dj _ _ e
  · have n : q ≠ p := ne _ _ p e c hσ
    obtain ⟨a, b, r⟩ := ow'
    exact ⟨a, by rw [upd_ne n]; exact b, r⟩
/-- an owned slot frozen -/
theorem StOk.demote (st : StOk g ρ G E F σ H) (e : E[i]? = some (.own d)) : ∃ v F', σ[i]? = some (some v) ∧ Same F F' ∧ Rep g F' d v ∧ StOk g ρ G (E.set i (.fz d)) F' σ H := by
  obtain ⟨p, e1, f, gn, o, hp, ow⟩ := st.at e rfl
  obtain ⟨st1, _, _⟩ := st.give e rfl e1 hp
  have st2 := st1.freeze gn
  have r : Rep g (upd F p o) d (.ref p) := ow.rep f
  refine ⟨.ref p, upd F p o, e1, Same.new f, r, ?_⟩
  have st3 := st2.store (i := i) r
  have hi : i < σ.length := (List.getElem?_eq_some_iff.mp e1).1
  have e2 : σ.set i (some (.ref p)) = σ := by
    apply List.ext_getElem?
    intro j
    by_cases hj : i = j
    · subst hj; rw [List.getElem?_set_self hi, e1]
    · rw [List.getElem?_set_ne hj]
  rw [e2, List.set_set] at st3
  exact st3
/-- an owned cell is written -/
theorem StOk.write {o' : HO} {d' : D} (st : StOk g ρ G E F σ H) (e : E[i]? = some s) (c : s.cell = some d) (hσ : σ[i]? = some (some (.ref p))) (ow' : OwnO g F d' o') : StOk g ρ G (E.set i (s.put d')) F σ (upd H p o') := by
  obtain ⟨p', e1, f, gn, o, hp, ow⟩ := st.at e c
  rw [hσ] at e1
  have : p = p' := by injection (Option.some.inj (Option.some.inj e1))
  subst this
  have bor : ∀ k x, s = .bor k x → ρ k = p := by
    intro k x z
    obtain ⟨ps, h1, h2, h3⟩ := st.ow
    have q := (h1 i s d e c).1
    rw [hσ] at q
    have q2 : p = ps i := by injection (Option.some.inj (Option.some.inj q))
    rw [q2, h2 i k x (by rw [← z]; exact e)]
  refine st.slot (Same.refl F) (fun b u e => ?_) (fun b u e => ?_) st.dj rfl (fun _ _ => rfl) p (fun j t d q hj e1 e2 e3 ow' ne => ?_) fun hi => ?_
  · rw [upd_ne (ne_of_none e f)]; exact st.sf _ _ e
  · rw [upd_ne (ne_of_none e gn)]; exact st.sg _ _ e
  · have n : q ≠ p := ne _ _ p e c hσ
    obtain ⟨a, b, u, x, r⟩ := ow'
    exact ⟨⟨a, b, u, by rw [upd_ne n]; exact x, r⟩, fun _ => n⟩
  · cases s with
    | no => cases c
    | fz _ => cases c
    | own x => exact ⟨hσ, f, gn, o', upd_same, ow'⟩
    | bor k x => exact ⟨bor k x rfl, hσ, f, gn, o', upd_same, ow'⟩
/-- other slots: kept, forgotten, or frozen things -/
theorem StOk.reslot {E' : Nv} (st : StOk g ρ G E F σ H) (hl : E'.length = σ'.length)
    (h : ∀ (i : Nat) s, E'[i]? = some s → (E[i]? = some s ∧ σ'[i]? = σ[i]?) ∨ s = .no ∨ ∃ d v, s = .fz d ∧ σ'[i]? = some (some v) ∧ Rep g F d v) : StOk g ρ G E' F σ' H := by
  obtain ⟨ps, h1, h2, h3⟩ := st.ow
  have cellE : ∀ {i : Nat} {s : Sl} {d : D}, E'[i]? = some s → s.cell = some d → E[i]? = some s ∧ σ'[i]? = σ[i]? := fun {i s d} e c => by
    rcases h i s e with z | z | ⟨x, v, z, _⟩
    · exact z
    · rw [z] at c; cases c
    · rw [z] at c; cases c
  refine ⟨st.sf, st.sg, st.dj, hl, fun i d e => ?_, ps, fun i s d e c => ?_, fun i k d e => h2 i k d (cellE (d := d) e rfl).1, fun i j s t d e e1 c1 e2 c2 q => h3 i j s t d e (cellE e1 c1).1 c1 (cellE e2 c2).1 c2 q⟩
  · rcases h i _ e with ⟨z, y⟩ | z | ⟨x, v, z, y, r⟩
    · obtain ⟨v, a, b⟩ := st.fz i d z
      exact ⟨v, by rw [y]; exact a, b⟩
    · cases z
    · cases z; exact ⟨v, y, r⟩
  · obtain ⟨a, b⟩ := cellE e c
    rw [b]
    exact h1 i s d a c
/-- a slot set to what it is -/
theorem StOk.len_lt (st : StOk g ρ G E F σ H) (e : E[i]? = some s) : i < σ.length := by
  rw [← st.len]; exact (List.getElem?_eq_some_iff.mp e).1
end
end FL

namespace FL
open PySem PySem.Spec PyProof.Rows L2

/-! ## outcomes -/
inductive R (α : Type) where
  | val (a : α) (E : Nv) | exc (c : Nat) (fs : Option (Str × D)) (E : Nv) | bad
def R.bind {α β : Type} : R α → (α → Nv → R β) → R β
  | .val a E, k => k a E
  | .exc c f E, _ => .exc c f E
  | .bad, _ => .bad
theorem R.bind_val {α β : Type} {a : α} {E : Nv} {k : α → Nv → R β} : (R.val a E).bind k = k a E := rfl
theorem R.bind_exc {α β : Type} {c : Nat} {f : Option (Str × D)} {E : Nv} {k : α → Nv → R β} : (R.exc c f E).bind k = R.exc c f E := rfl
theorem R.bind_bad {α β : Type} {k : α → Nv → R β} : (R.bad : R α).bind k = R.bad := rfl
/-- some or bad -/
def R.some {α : Type} : Option α → Nv → R α
  | .some a, E => .val a E
  | .none, _ => .bad
/-- how a statement ends -/
inductive Fl where
  | nx | rt (d : D) | rn (d : D) | bk | ct
/-- an operand: a value, or a slot that is only looked at (or lent) -/
inductive Ar where
  | v (d : D) | pk (i : Nat)
def Ar.get (E : Nv) : Ar → Option D
  | .v d => some d
  | .pk i => match E[i]? with
    | some s => s.cont
    | none => none
def XRep (g : Gm) (F : Hp) : Option (Str × D) → Option Addr → Prop
  | none, d => d = none
  | some (n, x), d => ∃ a v, d = some a ∧ F a = some (.xd [(n, v)]) ∧ Rep g F x v
theorem XRep.mono {g : Gm} {F F' : Hp} (s : Same F F') : ∀ {f : Option (Str × D)} {d : Option Addr}, XRep g F f d → XRep g F' f d
  | none, _, h => h
  | some (n, x), _, ⟨a, v, e, q, r⟩ => ⟨a, v, e, s _ _ q, r.mono s⟩
def ArOk (g : Gm) (F : Hp) (σ : L2.St) : Ar → V → Prop
  | .v d, x => Rep g F d x
  | .pk i, x => σ[i]? = some (some x)
theorem ArOk.mono {g : Gm} {F F' : Hp} {σ : L2.St} (s : Same F F') : ∀ {a : Ar} {x : V}, ArOk g F σ a x → ArOk g F' σ a x
  | .v _, _, h => Rep.mono s h
  | .pk _, _, h => h
def ArsOk (g : Gm) (F : Hp) (σ : L2.St) : List Ar → List V → Prop
  | [], vs => vs = []
  | a :: as, vs => ∃ x xs, vs = x :: xs ∧ ArOk g F σ a x ∧ ArsOk g F σ as xs
theorem ArsOk.mono {g : Gm} {F F' : Hp} {σ : L2.St} (s : Same F F') : ∀ {as : List Ar} {xs : List V}, ArsOk g F σ as xs → ArsOk g F' σ as xs
  | [], _, h => h
  | a :: as, _, ⟨x, xs, e, r, t⟩ => ⟨x, xs, e, r.mono s, ArsOk.mono s t⟩
theorem ArsOk.length {g : Gm} {F : Hp} {σ : L2.St} : ∀ {as : List Ar} {xs : List V}, ArsOk g F σ as xs → as.length = xs.length
  | [], _, h => by cases (show _ = [] from h); rfl
  | a :: as, _, ⟨x, xs, e, r, t⟩ => by subst e; simp [ArsOk.length t]

section
variable {g : Gm} {F : Hp} {σ : L2.St}
/-- operands given as values -/
def valsOf : List Ar → Option (List D)
  | [] => some []
  | .v d :: r => match valsOf r with
    | some ds => some (d :: ds)
    | none => none
  | .pk _ :: _ => none
theorem valsOf_ok : ∀ {as : List Ar} {ds : List D} {vs : List V}, ArsOk g F σ as vs → valsOf as = some ds → RepL g F ds vs
  | [], _, _, h, e => by cases (show _ = [] from h); cases e; exact rfl
  | .v d :: r, ds, _, ⟨x, xs, rfl, q, t⟩, e => by
    unfold valsOf at e
    cases z : valsOf r with
    | none => simp [z] at e
    | some ds' =>
      simp only [z, Option.some.injEq] at e
      subst e
      exact ⟨x, xs, rfl, q, valsOf_ok t z⟩
  | .pk _ :: _, _, _, _, e => nomatch e
end
/-! ## readings -/
section
variable (g : Gm) (W : WX)
def postX (ρ : Nat → Addr) (G F : Hp) (σ : L2.St) (c : Nat) (fs : Option (Str × D)) (E' : Nv) : Prop :=
  ∀ dx F' H', StOk g ρ G E' F' σ H' → Same F F' → XRep g F' fs dx → W (.ref (g.xcl c)) dx σ H'
def post {α β : Type} (rel : Hp → L2.St → α → β → Prop) (ρ : Nat → Addr) (G F : Hp) (σ : L2.St) (Q : β → Hp → Prop) : R α → Prop
  | .val a E' => ∀ b F' H', StOk g ρ G E' F' σ H' → Same F F' → rel F' σ a b → Q b H'
  | .exc c fs E' => postX g W ρ G F σ c fs E'
  | .bad => False
def tG {α β : Type} (rel : Hp → L2.St → α → β → Prop) (f : Nv → R α) : L2.St → Hp → (β → Hp → Prop) → Prop := fun σ H Q =>
  ∃ ρ G E F, StOk g ρ G E F σ H ∧ post g W rel ρ G F σ Q (f E)
def postS (ρ : Nat → Addr) (G F : Hp) (D : Ends) : R Fl → Prop
  | .val .nx E' => ∀ σ' F' H', StOk g ρ G E' F' σ' H' → Same F F' → D.nx σ' H'
  | .val .bk E' => ∀ σ' F' H', StOk g ρ G E' F' σ' H' → Same F F' → D.bk σ' H'
  | .val .ct E' => ∀ σ' F' H', StOk g ρ G E' F' σ' H' → Same F F' → D.ct σ' H'
  | .val (.rt d) E' => ∀ v σ' F' H', StOk g ρ G E' F' σ' H' → Same F F' → Rep g F' d v → D.rt v H'
  | .val (.rn d) E' => ∀ p o σ' F' H', StOk g ρ (upd G p o) E' F' σ' H' → G p = none → OwnO g F' d o → Same F F' → D.rt (.ref p) H'
  | .exc c fs E' => ∀ dx σ' F' H', StOk g ρ G E' F' σ' H' → Same F F' → XRep g F' fs dx → W (.ref (g.xcl c)) dx σ' H'
  | .bad => False
def tS (s : Nv → R Fl) : TS := fun D σ H => ∃ ρ G E F, StOk g ρ G E F σ H ∧ postS g W ρ G F D (s E)
/-- a new owned object -/
def postN (ρ : Nat → Addr) (G F : Hp) (σ : L2.St) (Q : VK) : R D → Prop
  | .val d E' => ∀ p o F' H', StOk g ρ (upd G p o) E' F' σ H' → G p = none → OwnO g F' d o → Same F F' → Q (.ref p) H'
  | .exc c fs E' => postX g W ρ G F σ c fs E'
  | .bad => False
def tN (f : Nv → R D) : TE := fun σ H Q => ∃ ρ G E F, StOk g ρ G E F σ H ∧ postN g W ρ G F σ Q (f E)
abbrev relD : Hp → L2.St → D → V → Prop := fun F _ d v => Rep g F d v
abbrev relB : Hp → L2.St → Bool → Bool → Prop := fun _ _ b c => b = c
abbrev relA : Hp → L2.St → Ar → V → Prop := fun F σ a v => ArOk g F σ a v
abbrev relAs : Hp → L2.St → List Ar → List V → Prop := fun F σ a v => ArsOk g F σ a v
end
/-- an expression; a test; an operand; operands; a new object; a statement -/
abbrev FE (X : Cx) (g : Gm) (W : WX) (e : Expr) (f : Nv → R D) : Prop := PE X e (tG g W (relD g) f)
abbrev FT (X : Cx) (g : Gm) (W : WX) (e : Expr) (f : Nv → R Bool) : Prop := PT X e (tG g W relB f)
abbrev FO (X : Cx) (g : Gm) (W : WX) (e : Expr) (f : Nv → R Ar) : Prop := PE X e (tG g W (relA g) f)
abbrev FA (X : Cx) (g : Gm) (W : WX) (es : List Expr) (f : Nv → R (List Ar)) : Prop := PA X es (tG g W (relAs g) f)
abbrev FN (X : Cx) (g : Gm) (W : WX) (e : Expr) (f : Nv → R D) : Prop := PE X e (tN g W f)
abbrev FS (X : Cx) (g : Gm) (W : WX) (st : Stmt) (s : Nv → R Fl) : Prop := PS X st (tS g W s)
abbrev FSs (X : Cx) (g : Gm) (W : WX) (st : List Stmt) (s : Nv → R Fl) : Prop := PSs X st (tS g W s)

theorem peImp {X : Cx} {e : Expr} {t t' : TE} (h : PE X e t) (i : ∀ σ H Q, t' σ H Q → t σ H Q) : PE X e t' := ⟨fun pins s σ H Q I q => h.run pins s σ H Q I (i σ H Q q)⟩
theorem ptImp {X : Cx} {e : Expr} {t t' : TT} (h : PT X e t) (i : ∀ σ H Q, t' σ H Q → t σ H Q) : PT X e t' := ⟨fun pins s σ H Q I q => h.run pins s σ H Q I (i σ H Q q)⟩
theorem pwImp {X : Cx} {e : Expr} {t t' : TT} (h : PW X e t) (i : ∀ σ H Q, t' σ H Q → t σ H Q) : PW X e t' := ⟨fun wh pins s σ H Q I q => h.run wh pins s σ H Q I (i σ H Q q)⟩
theorem paImp {X : Cx} {e : List Expr} {t t' : TA} (h : PA X e t) (i : ∀ σ H Q, t' σ H Q → t σ H Q) : PA X e t' := ⟨fun pos pins s σ H Q I q => h.run pos pins s σ H Q I (i σ H Q q)⟩
theorem psImp {X : Cx} {e : Stmt} {t t' : TS} (h : PS X e t) (i : ∀ D σ H, t' D σ H → t D σ H) : PS X e t' := ⟨fun pins s σ H D I q => h.run pins s σ H D I (i D σ H q)⟩
theorem pssImp {X : Cx} {e : List Stmt} {t t' : TS} (h : PSs X e t) (i : ∀ D σ H, t' D σ H → t D σ H) : PSs X e t' := ⟨fun pins s σ H D I q => h.run pins s σ H D I (i D σ H q)⟩

section
variable {g : Gm} {W : WX} {α β γ δ : Type} {rel : Hp → L2.St → α → β → Prop} {rel2 : Hp → L2.St → γ → δ → Prop} {ρ : Nat → Addr} {G F F1 : Hp} {E : Nv} {σ : L2.St} {H : Hp}
theorem postX.mono (s : Same F F1) {c : Nat} {fs : Option (Str × D)} {E' : Nv} (h : postX g W ρ G F σ c fs E') : postX g W ρ G F1 σ c fs E' := fun dx F' H' st q x => h dx F' H' st (s.trans q) x
theorem post.mono (s : Same F F1) {Q : β → Hp → Prop} : ∀ {r : R α}, post g W rel ρ G F σ Q r → post g W rel ρ G F1 σ Q r
  | .val _ _, h => fun b F' H' st q x => h b F' H' st (s.trans q) x
  | .exc _ _ _, h => postX.mono s h
  | .bad, h => h
theorem postN.mono (s : Same F F1) {Q : VK} : ∀ {r : R D}, postN g W ρ G F σ Q r → postN g W ρ G F1 σ Q r
  | .val _ _, h => fun p o F' H' st n ow q => h p o F' H' st n ow (s.trans q)
  | .exc _ _ _, h => postX.mono s h
  | .bad, h => h
theorem postS.mono (s : Same F F1) {D : Ends} : ∀ {r : R Fl}, postS g W ρ G F D r → postS g W ρ G F1 D r
  | .val .nx _, h => fun σ' F' H' st q => h σ' F' H' st (s.trans q)
  | .val .bk _, h => fun σ' F' H' st q => h σ' F' H' st (s.trans q)
  | .val .ct _, h => fun σ' F' H' st q => h σ' F' H' st (s.trans q)
  | .val (.rt _) _, h => fun v σ' F' H' st q r => h v σ' F' H' st (s.trans q) r
  | .val (.rn _) _, h => fun p o σ' F' H' st n ow q => h p o σ' F' H' st n ow (s.trans q)
  | .exc _ _ _, h => fun dx σ' F' H' st q x => h dx σ' F' H' st (s.trans q) x
  | .bad, h => h
/-- an expression, then the rest -/
theorem bindE {f : Nv → R α} {k : α → Nv → R γ} {Q2 : δ → Hp → Prop} {Q1 : β → Hp → Prop} (st : StOk g ρ G E F σ H) (h : post g W rel2 ρ G F σ Q2 ((f E).bind k))
    (cont : ∀ a E1 b F1 H1, StOk g ρ G E1 F1 σ H1 → Same F F1 → rel F1 σ a b → post g W rel2 ρ G F1 σ Q2 (k a E1) → Q1 b H1) : tG g W rel f σ H Q1 := by
  refine ⟨ρ, G, E, F, st, ?_⟩
  revert h
  cases f E with
  | val a E1 => exact fun h b F' H' st' s r => cont a E1 b F' H' st' s r (post.mono (r := k a E1) s h)
  | exc c fs E' => exact fun h => h
  | bad => exact fun h => h
theorem bindN {f : Nv → R α} {k : α → Nv → R D} {Q2 : VK} {Q1 : β → Hp → Prop} (st : StOk g ρ G E F σ H) (h : postN g W ρ G F σ Q2 ((f E).bind k))
    (cont : ∀ a E1 b F1 H1, StOk g ρ G E1 F1 σ H1 → Same F F1 → rel F1 σ a b → postN g W ρ G F1 σ Q2 (k a E1) → Q1 b H1) : tG g W rel f σ H Q1 := by
  refine ⟨ρ, G, E, F, st, ?_⟩
  revert h
  cases f E with
  | val a E1 => exact fun h b F' H' st' s r => cont a E1 b F' H' st' s r (postN.mono (r := k a E1) s h)
  | exc c fs E' => exact fun h => h
  | bad => exact fun h => h
theorem bindS {f : Nv → R α} {k : α → Nv → R Fl} {D : Ends} {Q1 : β → Hp → Prop} (st : StOk g ρ G E F σ H) (h : postS g W ρ G F D ((f E).bind k))
    (cont : ∀ a E1 b F1 H1, StOk g ρ G E1 F1 σ H1 → Same F F1 → rel F1 σ a b → postS g W ρ G F1 D (k a E1) → Q1 b H1) : tG g W rel f σ H Q1 := by
  refine ⟨ρ, G, E, F, st, ?_⟩
  revert h
  cases f E with
  | val a E1 => exact fun h b F' H' st' s r => cont a E1 b F' H' st' s r (postS.mono (r := k a E1) s h)
  | exc c fs E' => exact fun h dx F' H' st' s x => h dx σ F' H' st' s x
  | bad => exact fun h => h
/-- a new object, then the rest -/
theorem bindNE {f : Nv → R D} {k : D → Nv → R γ} {Q2 : δ → Hp → Prop} {Q1 : VK} (st : StOk g ρ G E F σ H) (h : post g W rel2 ρ G F σ Q2 ((f E).bind k))
    (cont : ∀ d E1 p o F1 H1, StOk g ρ (upd G p o) E1 F1 σ H1 → G p = none → OwnO g F1 d o → Same F F1 → post g W rel2 ρ G F1 σ Q2 (k d E1) → Q1 (.ref p) H1) : tN g W f σ H Q1 := by
  refine ⟨ρ, G, E, F, st, ?_⟩
  revert h
  cases f E with
  | val a E1 => exact fun h p o F' H' st' n ow s => cont a E1 p o F' H' st' n ow s (post.mono (r := k a E1) s h)
  | exc c fs E' => exact fun h => h
  | bad => exact fun h => h
theorem bindNS {f : Nv → R D} {k : D → Nv → R Fl} {D' : Ends} {Q1 : VK} (st : StOk g ρ G E F σ H) (h : postS g W ρ G F D' ((f E).bind k))
    (cont : ∀ d E1 p o F1 H1, StOk g ρ (upd G p o) E1 F1 σ H1 → G p = none → OwnO g F1 d o → Same F F1 → postS g W ρ G F1 D' (k d E1) → Q1 (.ref p) H1) : tN g W f σ H Q1 := by
  refine ⟨ρ, G, E, F, st, ?_⟩
  revert h
  cases f E with
  | val a E1 => exact fun h p o F' H' st' n ow s => cont a E1 p o F' H' st' n ow s (postS.mono (r := k a E1) s h)
  | exc c fs E' => exact fun h dx F' H' st' s x => h dx σ F' H' st' s x
  | bad => exact fun h => h
end

/-! ## value operations -/
/-- only new frozen objects -/
def Grow (g : Gm) (F H F' H' : Hp) : Prop := Same F F' ∧ ∀ ρ G E σ, StOk g ρ G E F σ H → StOk g ρ G E F' σ H'
theorem Grow.refl {g : Gm} {F H : Hp} : Grow g F H F H := ⟨Same.refl _, fun _ _ _ _ h => h⟩
theorem Grow.new {g : Gm} {F H : Hp} {p : Addr} (o : HO) (sf : Same F H) (h : H p = none) : Grow g F H (upd F p o) (upd H p o) := ⟨Same.new (sf.free h), fun _ _ _ _ st => st.grow h o⟩
/-- d stands at v: frozen, or an owned cell's content -/
def RepH (g : Gm) (F H : Hp) (d : D) (v : V) : Prop := Rep g F d v ∨ ∃ p o, v = .ref p ∧ H p = some o ∧ OwnO g F d o
def RepHL (g : Gm) (F H : Hp) : List D → List V → Prop
  | [], vs => vs = []
  | d :: ds, vs => ∃ x xs, vs = x :: xs ∧ RepH g F H d x ∧ RepHL g F H ds xs
section
variable {g : Gm} {ρ : Nat → Addr} {G F F' H : Hp} {E : Nv} {σ : L2.St} {d : D} {v : V}
theorem ar_ok (st : StOk g ρ G E F σ H) : ∀ {a : Ar} {d : D} {v : V}, ArOk g F σ a v → a.get E = some d → RepH g F H d v
  | .v _, _, _, h, e => by cases e; exact .inl h
  | .pk i, d, v, h, e => by
    have h : σ[i]? = some (some v) := h
    unfold Ar.get at e
    cases q : E[i]? with
    | none => simp [q] at e
    | some s =>
      simp only [q] at e
      cases s with
      | no => cases e
      | fz x =>
        cases e
        obtain ⟨w, a, b⟩ := st.fz i _ q
        rw [h] at a
        cases a
        exact .inl b
      | own x =>
        cases e
        obtain ⟨p, a, _, _, o, b, c⟩ := st.at q rfl
        rw [h] at a
        cases a
        exact .inr ⟨p, o, rfl, b, c⟩
      | bor k x =>
        cases e
        obtain ⟨p, a, _, _, o, b, c⟩ := st.at q rfl
        rw [h] at a
        cases a
        exact .inr ⟨p, o, rfl, b, c⟩
/-- all operands' data -/
def arGets (E : Nv) : List Ar → Option (List D)
  | [] => some []
  | a :: as => match a.get E with
    | none => none
    | some d => match arGets E as with
      | none => none
      | some ds => some (d :: ds)
theorem ars_ok (st : StOk g ρ G E F σ H) : ∀ {as : List Ar} {ds : List D} {vs : List V}, ArsOk g F σ as vs → arGets E as = some ds → RepHL g F H ds vs
  | [], _, _, h, e => by cases e; exact h
  | a :: as, ds, _, ⟨x, xs, e1, r, t⟩, e => by
    subst e1
    unfold arGets at e
    cases q : a.get E with
    | none => simp [q] at e
    | some d =>
      cases q2 : arGets E as with
      | none => simp [q, q2] at e
      | some ds' =>
        simp [q, q2] at e
        subst e
        exact ⟨x, xs, rfl, ar_ok st r q, ars_ok st t q2⟩
theorem RepH.non (h : RepH g F H .non v) : v = .non := by rcases h with h | ⟨_, _, _, _, h⟩; exact h; exact h.elim
theorem RepH.bl {b : Bool} (h : RepH g F H (.bl b) v) : v = .bl b := by rcases h with h | ⟨_, _, _, _, h⟩; exact h; exact h.elim
theorem RepH.int {b : Int} (h : RepH g F H (.int b) v) : v = .int b := by rcases h with h | ⟨_, _, _, _, h⟩; exact h; exact h.elim
theorem RepH.str {b : Str} (h : RepH g F H (.str b) v) : v = .str b := by rcases h with h | ⟨_, _, _, _, h⟩; exact h; exact h.elim
theorem RepH.ty {b : String} (h : RepH g F H (.ty b) v) : v = .ty b := by rcases h with h | ⟨_, _, _, _, h⟩; exact h; exact h.elim
theorem RepH.cls {b : Nat} (h : RepH g F H (.cls b) v) : v = .ref (g.cls b) := by rcases h with h | ⟨_, _, _, _, h⟩; exact h; exact h.elim
theorem RepH.tup {ds : List D} (sf : Same F H) (h : RepH g F H (.tup ds) v) : ∃ a xs, v = .ref a ∧ SqT g.K H a xs ∧ RepL g F ds xs := by
  rcases h with ⟨a, xs, e, q, r⟩ | ⟨_, _, _, _, h⟩
  · exact ⟨a, xs, e, same_t sf q, r⟩
  · exact h.elim
theorem RepH.scr {ns : List Int} (sf : Same F H) (h : RepH g F H (.scr ns) v) : ∃ a, v = .ref a ∧ SqL g.K H a (ns.map V.int) := by
  rcases h with ⟨a, e, q⟩ | ⟨_, _, _, _, h⟩
  · exact ⟨a, e, sf.seq q⟩
  · exact h.elim
theorem RepH.lst {ds : List D} (sf : Same F H) (h : RepH g F H (.lst ds) v) : ∃ a xs, v = .ref a ∧ H a = some (.lst xs) ∧ RepL g F ds xs := by
  rcases h with ⟨a, xs, e, q, r⟩ | ⟨p, o, e, hp, xs, rfl, r⟩
  · exact ⟨a, xs, e, sf _ _ q, r⟩
  · exact ⟨p, xs, e, hp, r⟩
theorem RepH.ins {c : Nat} {ns : List Str} {ds : List D} (sf : Same F H) (h : RepH g F H (.ins c ns ds) v) : ∃ a dx xs, v = .ref a ∧ H a = some (.ins (g.cls c) dx (ns.zip xs)) ∧ ns.length = xs.length ∧ RepL g F ds xs := by
  rcases h with ⟨a, dx, xs, e, q, l, r⟩ | ⟨p, o, e, hp, dx, xs, rfl, l, r⟩
  · exact ⟨a, dx, xs, e, sf _ _ q, l, r⟩
  · exact ⟨p, dx, xs, e, hp, l, r⟩
theorem RepH.dk {ks : List Key} {ds : List D} (sf : Same F H) (h : RepH g F H (.dk ks ds) v) : ∃ a xs, v = .ref a ∧ H a = some (.dK (ks.zip xs)) ∧ ks.length = xs.length ∧ RepL g F ds xs := by
  rcases h with ⟨a, xs, e, q, l, r⟩ | ⟨p, o, e, hp, xs, rfl, l, r⟩
  · exact ⟨a, xs, e, sf _ _ q, l, r⟩
  · exact ⟨p, xs, e, hp, l, r⟩
theorem RepH.dt {ks : List (List Key)} {ds : List D} (sf : Same F H) (h : RepH g F H (.dt ks ds) v) : ∃ a xs, v = .ref a ∧ H a = some (.dT (ks.zip xs)) ∧ ks.length = xs.length ∧ RepL g F ds xs := by
  rcases h with ⟨a, xs, e, q, l, r⟩ | ⟨p, o, e, hp, xs, rfl, l, r⟩
  · exact ⟨a, xs, e, sf _ _ q, l, r⟩
  · exact ⟨p, xs, e, hp, l, r⟩
theorem RepHL.one (h : RepHL g F H [d] vs) : ∃ x, vs = [x] ∧ RepH g F H d x := by
  obtain ⟨x, xs, rfl, r, e⟩ := h
  cases (show xs = [] from e)
  exact ⟨x, rfl, r⟩
theorem RepHL.two {d e : D} {vs : List V} (h : RepHL g F H [d, e] vs) : ∃ x y, vs = [x, y] ∧ RepH g F H d x ∧ RepH g F H e y := by
  obtain ⟨x, xs, rfl, r, t⟩ := h
  obtain ⟨y, rfl, q⟩ := RepHL.one t
  exact ⟨x, y, rfl, r, q⟩
end
/-- a two-place operation; one of an argument list; with a new owned result -/
def Op2 (g : Gm) (r : R2) (o : D → D → Option D) : Prop := ∀ (F H : Hp) (v u : V) (d e z : D) (Q : VK), Same F H → RepH g F H d v → RepH g F H e u → o d e = some z →
  (∀ w F' H', Grow g F H F' H' → Rep g F' z w → Q w H') → r v u H Q
def OpL (g : Gm) (r : List V → Hp → VK → Prop) (o : List D → Option D) : Prop := ∀ (F H : Hp) (vs : List V) (ds : List D) (z : D) (Q : VK), Same F H → RepHL g F H ds vs → o ds = some z →
  (∀ w F' H', Grow g F H F' H' → Rep g F' z w → Q w H') → r vs H Q
def OpN (g : Gm) (r : List V → Hp → VK → Prop) (o : List D → Option D) : Prop := ∀ (F H : Hp) (vs : List V) (ds : List D) (z : D) (Q : VK), Same F H → RepHL g F H ds vs → o ds = some z →
  (∀ p ob, H p = none → OwnO g F z ob → Q (.ref p) (upd H p ob)) → r vs H Q
def Op2N (g : Gm) (r : R2) (o : D → D → Option D) : Prop := ∀ (F H : Hp) (v u : V) (d e z : D) (Q : VK), Same F H → RepH g F H d v → RepH g F H e u → o d e = some z →
  (∀ p ob, H p = none → OwnO g F z ob → Q (.ref p) (upd H p ob)) → r v u H Q

/-! ## expressions -/
def fC (d : D) : Nv → R D := fun E => .val d E
def fVar (i : Nat) : Nv → R D := fun E => match E[i]? with
  | some (.fz d) => .val d E
  | some (.own d) => .val d (E.set i (.fz d))
  | _ => .bad
def fV (f : Nv → R D) : Nv → R Ar := fun E => (f E).bind fun d E1 => .val (.v d) E1
def fPk (i : Nat) : Nv → R Ar := fun E => match E[i]? with
  | some s => match s.cont with
    | some _ => .val (.pk i) E
    | none => .bad
  | none => .bad
def res2 (o : D → D → Option D) (E : Nv) (a b : Ar) : R D := match a.get E with
  | none => .bad
  | some d => match b.get E with
    | none => .bad
    | some e => R.some (o d e) E
def fOp2 (o : D → D → Option D) (fa fb : Nv → R Ar) : Nv → R D := fun E => (fa E).bind fun a E1 => (fb E1).bind fun b E2 => res2 o E2 a b
def fAs : List (Nv → R Ar) → Nv → R (List Ar)
  | [], E => .val [] E
  | f :: fs, E => (f E).bind fun a E1 => (fAs fs E1).bind fun as E2 => .val (a :: as) E2
def resL (o : List D → Option D) (E : Nv) (as : List Ar) : R D := match arGets E as with
  | none => .bad
  | some ds => R.some (o ds) E
def fOpL (o : List D → Option D) (fs : Nv → R (List Ar)) : Nv → R D := fun E => (fs E).bind fun as E1 => resL o E1 as
def asB : D → Option Bool
  | .bl b => some b
  | _ => none
def fTest (f : Nv → R D) : Nv → R Bool := fun E => (f E).bind fun d E1 => R.some (asB d) E1
def fChain (o o' : D → D → Option D) (fa fb fc : Nv → R Ar) : Nv → R D := fun E => (fa E).bind fun a E1 => (fb E1).bind fun b E2 => (res2 o E2 a b).bind fun z E3 => match asB z with
  | some true => (fc E3).bind fun c E4 => res2 o' E4 b c
  | some false => .val (.bl false) E3
  | none => .bad
def fAnd (fa fb : Nv → R D) : Nv → R D := fun E => (fa E).bind fun d E1 => match asB d with
  | some true => fb E1
  | some false => .val (.bl false) E1
  | none => .bad
def fOr (fa fb : Nv → R D) : Nv → R D := fun E => (fa E).bind fun d E1 => match asB d with
  | some true => .val (.bl true) E1
  | some false => fb E1
  | none => .bad
def fNot (fa : Nv → R D) : Nv → R D := fun E => (fa E).bind fun d E1 => match asB d with
  | some b => .val (.bl (!b)) E1
  | none => .bad
def tAndF (fa fb : Nv → R Bool) : Nv → R Bool := fun E => (fa E).bind fun b E1 => if b = true then fb E1 else .val false E1
def tOrF (fa fb : Nv → R Bool) : Nv → R Bool := fun E => (fa E).bind fun b E1 => if b = true then .val true E1 else fb E1
def tNotF (fa : Nv → R Bool) : Nv → R Bool := fun E => (fa E).bind fun b E1 => .val (!b) E1
def fIf {α : Type} (t : Nv → R Bool) (fa fb : Nv → R α) : Nv → R α := fun E => (t E).bind fun b E1 => if b = true then fa E1 else fb E1
section
variable {X : Cx} {g : Gm} {W : WX} {e a b c : Expr} {es : List Expr} {pos : Pos}
theorem fe_var {i : Nat} (h : PE X e (tVar i)) : FE X g W e (fVar i) := peImp h fun σ H Q ⟨ρ, G, E, F, st, q⟩ => by
  unfold fVar at q
  cases z : E[i]? with
  | none => simp only [z] at q; exact q.elim
  | some s =>
    simp only [z] at q
    cases s with
    | no => exact q.elim
    | bor _ _ => exact q.elim
    | fz d =>
      obtain ⟨v, x, r⟩ := st.fz i d z
      exact ⟨v, x, q v F H st (Same.refl F) r⟩
    | own d =>
      obtain ⟨v, F', x, s, r, st'⟩ := st.demote z
      exact ⟨v, x, q v F' H st' s r⟩
theorem fe_c {v : V} (h : PE X e (tC v)) (d : D) (r : ∀ F, Rep g F d v) : FE X g W e (fC d) := peImp h fun σ H Q ⟨ρ, G, E, F, st, q⟩ => q v F H st (Same.refl F) (r F)
theorem fo_val {f : Nv → R D} (h : FE X g W e f) : FO X g W e (fV f) := peImp h fun σ H Q ⟨ρ, G, E, F, st, q⟩ =>
  bindE st q fun d E1 v F1 H1 st1 s1 r1 q1 => q1 v F1 H1 st1 (Same.refl F1) r1
theorem fo_pk {i : Nat} (h : PE X e (tVar i)) : FO X g W e (fPk i) := peImp h fun σ H Q ⟨ρ, G, E, F, st, q⟩ => by
  unfold fPk at q
  cases z : E[i]? with
  | none => simp only [z] at q; exact q.elim
  | some s =>
    simp only [z] at q
    cases s with
    | no => exact q.elim
    | fz d =>
      obtain ⟨v, x, r⟩ := st.fz i d z
      exact ⟨v, x, q v F H st (Same.refl F) x⟩
    | own d =>
      obtain ⟨p, x, r⟩ := st.at z rfl
      exact ⟨_, x, q _ F H st (Same.refl F) x⟩
    | bor k d =>
      obtain ⟨p, x, r⟩ := st.at z rfl
      exact ⟨_, x, q _ F H st (Same.refl F) x⟩
theorem res2_ok {r : R2} {o : D → D → Option D} (hr : Op2 g r o) {ρ : Nat → Addr} {G F H : Hp} {E : Nv} {σ : L2.St} {x y : Ar} {v u : V} {Q : VK} (st : StOk g ρ G E F σ H) (rx : ArOk g F σ x v) (ry : ArOk g F σ y u)
    {Q1 : VK} (h : ∀ z, res2 o E x y = .val z E → ∀ w F' H', Same F F' → StOk g ρ G E F' σ H' → Rep g F' z w → Q1 w H') (nb : res2 o E x y ≠ .bad) : r v u H Q1 := by
  unfold res2 at h nb
  cases e1 : x.get E with
  | none => simp [e1] at nb
  | some d =>
    cases e2 : y.get E with
    | none => simp [e1, e2] at nb
    | some e =>
      simp only [e1, e2] at h nb
      cases e3 : o d e with
      | none => simp [e3, R.some] at nb
      | some z =>
        simp only [e3, R.some] at h
        exact hr F H v u d e z Q1 st.sf (ar_ok st rx e1) (ar_ok st ry e2) e3 fun w F' H' gr rw' => h z rfl w F' H' gr.1 (gr.2 _ _ _ _ st) rw'
theorem le_op2 {r : R2} {o : D → D → Option D} (hr : Op2 g r o) {fa fb : Nv → R Ar} {σ : L2.St} {H : Hp} {Q : VK} (h : tG g W (relD g) (fOp2 o fa fb) σ H Q) : tOp r (tG g W (relA g) fa) (tG g W (relA g) fb) σ H Q := by
  obtain ⟨ρ, G, E, F, st, q⟩ := h
  refine bindE st q fun x E1 v F1 H1 st1 s1 r1 q1 => ?_
  refine bindE st1 q1 fun y E2 u F2 H2 st2 s2 r2 q2 => ?_
  refine res2_ok (Q := Q) hr st2 (r1.mono s2) r2 (fun z e w F' H' s st' r => ?_) fun e => by rw [e] at q2; exact q2.elim
  rw [e] at q2
  exact q2 w F' H' st' s r
theorem fe_op2 {r : R2} {o : D → D → Option D} (hr : Op2 g r o) {fa fb : Nv → R Ar} (h : PE X e (tOp r (tG g W (relA g) fa) (tG g W (relA g) fb))) : FE X g W e (fOp2 o fa fb) := peImp h fun _ _ _ q => le_op2 hr q
theorem le_test {f : Nv → R D} {t : TE} (i : ∀ σ H Q, tG g W (relD g) f σ H Q → t σ H Q) {σ : L2.St} {H : Hp} {Q : Bool → Hp → Prop} (h : tG g W relB (fTest f) σ H Q) : t σ H fun x H' => ∃ k, x = .bl k ∧ Q k H' := by
  obtain ⟨ρ, G, E, F, st, q⟩ := h
  refine i _ _ _ (bindE st q fun d E1 v F1 H1 st1 s1 r1 q1 => ?_)
  cases d with
  | bl k =>
    obtain rfl : v = .bl k := r1
    exact ⟨k, rfl, q1 k F1 H1 st1 (Same.refl _) rfl⟩
  | _ => exact q1.elim
theorem ft_op2 {r : R2} {o : D → D → Option D} (hr : Op2 g r o) {fa fb : Nv → R Ar} (h : PT X e (tTest (tOp r (tG g W (relA g) fa) (tG g W (relA g) fb)))) : FT X g W e (fTest (fOp2 o fa fb)) := ptImp h fun _ _ _ q => le_test (fun _ _ _ => le_op2 hr) q
theorem ft_val {f : Nv → R D} (h : PT X e (tB (tG g W (relD g) f))) : FT X g W e (fTest f) := ptImp h fun _ _ _ q => le_test (fun _ _ _ z => z) q
theorem le_chain {r r' : R2} {o o' : D → D → Option D} (hr : Op2 g r o) (hr' : Op2 g r' o') {fa fb fc : Nv → R Ar} {σ : L2.St} {H : Hp} {Q : VK} (h : tG g W (relD g) (fChain o o' fa fb fc) σ H Q) :
    tChain r r' (tG g W (relA g) fa) (tG g W (relA g) fb) (tG g W (relA g) fc) σ H Q := by
  obtain ⟨ρ, G, E, F, st, q⟩ := h
  refine bindE st q fun x E1 v F1 H1 st1 s1 r1 q1 => ?_
  refine bindE st1 q1 fun y E2 u F2 H2 st2 s2 r2 q2 => ?_
  refine res2_ok (Q := Q) hr st2 (r1.mono s2) r2 (fun z e w F3 H3 s3 st3 r3 => ?_) fun e => by rw [e] at q2; exact q2.elim
  rw [e] at q2
  have q2 : post g W (relD g) ρ G F2 σ Q (match asB z with | some true => (fc E2).bind fun c E4 => res2 o' E4 y c | some false => .val (.bl false) E2 | none => .bad) := q2
  cases z with
  | bl k =>
    obtain rfl : w = .bl k := r3
    refine ⟨k, rfl, ?_⟩
    cases k with
    | true =>
      rw [if_pos rfl]
      refine bindE (rel := relA g) st3 (post.mono s3 q2) fun c E4 w F4 H4 st4 s4 r4 q4 => ?_
      refine res2_ok (Q := Q) hr' st4 (r2.mono (s3.trans s4)) r4 (fun z' e' w' F' H' s st' r => ?_) fun e' => by rw [e'] at q4; exact q4.elim
      rw [e'] at q4
      exact q4 w' F' H' st' s r
    | false =>
      rw [if_neg Bool.false_ne_true]
      exact q2 (.bl false) F3 H3 st3 s3 rfl
  | _ => exact q2.elim
theorem fe_chain {r r' : R2} {o o' : D → D → Option D} (hr : Op2 g r o) (hr' : Op2 g r' o') {fa fb fc : Nv → R Ar} (h : PE X e (tChain r r' (tG g W (relA g) fa) (tG g W (relA g) fb) (tG g W (relA g) fc))) : FE X g W e (fChain o o' fa fb fc) :=
  peImp h fun _ _ _ q => le_chain hr hr' q
theorem ft_chain {r r' : R2} {o o' : D → D → Option D} (hr : Op2 g r o) (hr' : Op2 g r' o') {fa fb fc : Nv → R Ar} (h : PT X e (tTest (tChain r r' (tG g W (relA g) fa) (tG g W (relA g) fb) (tG g W (relA g) fc)))) : FT X g W e (fTest (fChain o o' fa fb fc)) :=
  ptImp h fun _ _ _ q => le_test (fun _ _ _ => le_chain hr hr') q
theorem fe_and {fa fb : Nv → R D} (h : PE X e (tAndV (tG g W (relD g) fa) (tG g W (relD g) fb))) : FE X g W e (fAnd fa fb) := peImp h fun σ H Q ⟨ρ, G, E, F, st, q⟩ =>
  bindE st q fun d E1 v F1 H1 st1 s1 r1 q1 => by
    cases d with
    | bl k =>
      obtain rfl : v = .bl k := r1
      refine ⟨k, rfl, ?_⟩
      cases k with
      | true => rw [if_pos rfl]; exact ⟨ρ, G, E1, F1, st1, q1⟩
      | false => rw [if_neg Bool.false_ne_true]; exact q1 _ F1 H1 st1 (Same.refl _) rfl
    | _ => exact q1.elim
theorem fe_or {fa fb : Nv → R D} (h : PE X e (tOrV (tG g W (relD g) fa) (tG g W (relD g) fb))) : FE X g W e (fOr fa fb) := peImp h fun σ H Q ⟨ρ, G, E, F, st, q⟩ =>
  bindE st q fun d E1 v F1 H1 st1 s1 r1 q1 => by
    cases d with
    | bl k =>
      obtain rfl : v = .bl k := r1
      refine ⟨k, rfl, ?_⟩
      cases k with
      | true => rw [if_pos rfl]; exact q1 _ F1 H1 st1 (Same.refl _) rfl
      | false => rw [if_neg Bool.false_ne_true]; exact ⟨ρ, G, E1, F1, st1, q1⟩
    | _ => exact q1.elim
theorem fe_not {fa : Nv → R D} (h : PE X e (tNotV (tG g W (relD g) fa))) : FE X g W e (fNot fa) := peImp h fun σ H Q ⟨ρ, G, E, F, st, q⟩ =>
  bindE st q fun d E1 v F1 H1 st1 s1 r1 q1 => by
    cases d with
    | bl k =>
      obtain rfl : v = .bl k := r1
      exact ⟨k, rfl, q1 _ F1 H1 st1 (Same.refl _) rfl⟩
    | _ => exact q1.elim
theorem le_and {fa fb : Nv → R Bool} {σ : L2.St} {H : Hp} {Q : Bool → Hp → Prop} (h : tG g W relB (tAndF fa fb) σ H Q) : tAnd (tG g W relB fa) (tG g W relB fb) σ H Q := by
  obtain ⟨ρ, G, E, F, st, q⟩ := h
  refine bindE st q fun k E1 c F1 H1 st1 s1 r1 q1 => ?_
  obtain rfl : k = c := r1
  cases k with
  | true => rw [if_pos rfl]; exact ⟨ρ, G, E1, F1, st1, q1⟩
  | false => rw [if_neg Bool.false_ne_true]; exact q1 _ F1 H1 st1 (Same.refl _) rfl
theorem le_or {fa fb : Nv → R Bool} {σ : L2.St} {H : Hp} {Q : Bool → Hp → Prop} (h : tG g W relB (tOrF fa fb) σ H Q) : tOr (tG g W relB fa) (tG g W relB fb) σ H Q := by
  obtain ⟨ρ, G, E, F, st, q⟩ := h
  refine bindE st q fun k E1 c F1 H1 st1 s1 r1 q1 => ?_
  obtain rfl : k = c := r1
  cases k with
  | true => rw [if_pos rfl]; exact q1 _ F1 H1 st1 (Same.refl _) rfl
  | false => rw [if_neg Bool.false_ne_true]; exact ⟨ρ, G, E1, F1, st1, q1⟩
abbrev FW (X : Cx) (g : Gm) (W : WX) (e : Expr) (f : Nv → R Bool) : Prop := PW X e (tG g W relB f)
variable {rest : List Expr}
theorem fw_and1 {fa : Nv → R Bool} (h : FT X g W a fa) : FW X g W (.BoolOp .And [a] pos) fa := pw_and1 h
theorem fw_or1 {fa : Nv → R Bool} (h : FT X g W a fa) : FW X g W (.BoolOp .Or [a] pos) fa := pw_or1 h
theorem fw_and {fa fb : Nv → R Bool} (h : FT X g W a fa) (k : FW X g W (.BoolOp .And (b :: rest) pos) fb) : FW X g W (.BoolOp .And (a :: b :: rest) pos) (tAndF fa fb) := pwImp (pw_and h k) fun _ _ _ q => le_and q
theorem fw_or {fa fb : Nv → R Bool} (h : FT X g W a fa) (k : FW X g W (.BoolOp .Or (b :: rest) pos) fb) : FW X g W (.BoolOp .Or (a :: b :: rest) pos) (tOrF fa fb) := pwImp (pw_or h k) fun _ _ _ q => le_or q
theorem ft_not {fa : Nv → R Bool} (h : FT X g W a fa) : FT X g W (.UnaryOp .Not a pos) (tNotF fa) := ptImp (pt_not h) fun σ H Q ⟨ρ, G, E, F, st, q⟩ =>
  bindE st q fun k E1 c F1 H1 st1 s1 r1 q1 => q1 (!c) F1 H1 st1 (Same.refl _) (by rw [show k = c from r1])
theorem fe_if {t : Nv → R Bool} {fa fb : Nv → R D} (ht : FT X g W c t) (ha : FE X g W a fa) (hb : FE X g W b fb) : FE X g W (.IfExp c a b pos) (fIf t fa fb) := peImp (pe_ifExp ht ha hb) fun σ H Q ⟨ρ, G, E, F, st, q⟩ =>
  bindE st q fun k E1 c F1 H1 st1 s1 r1 q1 => by
    obtain rfl : k = c := r1
    cases k with
    | true => rw [if_pos rfl]; exact ⟨ρ, G, E1, F1, st1, q1⟩
    | false => rw [if_neg Bool.false_ne_true]; exact ⟨ρ, G, E1, F1, st1, q1⟩
/-! operand lists -/
theorem fa_nil : FA X g W [] (fAs []) := paImp pa_nil fun σ H Q ⟨ρ, G, E, F, st, q⟩ => q [] F H st (Same.refl _) rfl
theorem fa_cons {f : Nv → R Ar} {fs : List (Nv → R Ar)} (h : FO X g W e f) (k : FA X g W es (fAs fs)) (hs : starEach (e :: es) X.env = (false, eval e X.env) :: starEach es X.env := by rfl) : FA X g W (e :: es) (fAs (f :: fs)) :=
  paImp (pa_cons h k hs) fun σ H Q ⟨ρ, G, E, F, st, q⟩ =>
    bindE st q fun x E1 v F1 H1 st1 s1 r1 q1 => bindE st1 q1 fun xs E2 vs F2 H2 st2 s2 r2 q2 => q2 (v :: vs) F2 H2 st2 (Same.refl _) ⟨v, vs, rfl, r1.mono s2, r2⟩
theorem resL_ok {r : List V → Hp → VK → Prop} {o : List D → Option D} (hr : OpL g r o) {ρ : Nat → Addr} {G F H : Hp} {E : Nv} {σ : L2.St} {xs : List Ar} {vs : List V} (st : StOk g ρ G E F σ H) (rx : ArsOk g F σ xs vs)
    {Q1 : VK} (h : ∀ z, resL o E xs = .val z E → ∀ w F' H', Same F F' → StOk g ρ G E F' σ H' → Rep g F' z w → Q1 w H') (nb : resL o E xs ≠ .bad) : r vs H Q1 := by
  unfold resL at h nb
  cases e1 : arGets E xs with
  | none => simp [e1] at nb
  | some ds =>
    simp only [e1] at h nb
    cases e3 : o ds with
    | none => simp [e3, R.some] at nb
    | some z =>
      simp only [e3, R.some] at h
      exact hr F H vs ds z Q1 st.sf (ars_ok st rx e1) e3 fun w F' H' gr rw' => h z rfl w F' H' gr.1 (gr.2 _ _ _ _ st) rw'
theorem le_opL {r : List V → Hp → VK → Prop} {o : List D → Option D} (hr : OpL g r o) {fs : Nv → R (List Ar)} {σ : L2.St} {H : Hp} {Q : VK} (h : tG g W (relD g) (fOpL o fs) σ H Q) : tCB r (tG g W (relAs g) fs) σ H Q := by
  obtain ⟨ρ, G, E, F, st, q⟩ := h
  refine bindE st q fun x E1 v F1 H1 st1 s1 r1 q1 => ?_
  refine resL_ok hr st1 r1 (fun z e w F' H' s st' r => ?_) fun e => by rw [e] at q1; exact q1.elim
  rw [e] at q1
  exact q1 w F' H' st' s r
theorem fe_opL {r : List V → Hp → VK → Prop} {o : List D → Option D} (hr : OpL g r o) {fs : Nv → R (List Ar)} (h : PE X e (tCB r (tG g W (relAs g) fs))) : FE X g W e (fOpL o fs) := peImp h fun _ _ _ q => le_opL hr q
theorem fn_opL {r : List V → Hp → VK → Prop} {o : List D → Option D} (hr : OpN g r o) {fs : Nv → R (List Ar)} (h : PE X e (tCB r (tG g W (relAs g) fs))) : FN X g W e (fOpL o fs) := peImp h fun σ H Q ⟨ρ, G, E, F, st, q⟩ => by
  refine bindN st q fun x E1 vs F1 H1 st1 s1 r1 q1 => ?_
  unfold resL at q1
  cases e1 : arGets E1 x with
  | none => simp only [e1] at q1; exact q1.elim
  | some ds =>
    simp only [e1] at q1
    cases e3 : o ds with
    | none => simp only [e3, R.some] at q1; exact q1.elim
    | some z =>
      simp only [e3, R.some] at q1
      exact hr F1 H1 vs ds z Q st1.sf (ars_ok st1 r1 e1) e3 fun p ob hp ow => q1 p ob F1 _ (st1.temp hp ob) (st1.fG hp) ow (Same.refl _)
theorem fn_op2 {r : R2} {o : D → D → Option D} (hr : Op2N g r o) {fa fb : Nv → R Ar} (h : PE X e (tOp r (tG g W (relA g) fa) (tG g W (relA g) fb))) : FN X g W e (fOp2 o fa fb) := peImp h fun σ H Q ⟨ρ, G, E, F, st, q⟩ => by
  refine bindN st q fun x E1 v F1 H1 st1 s1 r1 q1 => ?_
  refine bindN st1 q1 fun y E2 u F2 H2 st2 s2 r2 q2 => ?_
  unfold res2 at q2
  cases e1 : x.get E2 with
  | none => simp only [e1] at q2; exact q2.elim
  | some d =>
    cases e2 : y.get E2 with
    | none => simp only [e1, e2] at q2; exact q2.elim
    | some e =>
      simp only [e1, e2] at q2
      cases e3 : o d e with
      | none => simp only [e3, R.some] at q2; exact q2.elim
      | some z =>
        simp only [e3, R.some] at q2
        exact hr F2 H2 v u d e z Q st2.sf (ar_ok st2 (r1.mono s2) e1) (ar_ok st2 r2 e2) e3 fun p ob hp ow => q2 p ob F2 _ (st2.temp hp ob) (st2.fG hp) ow (Same.refl _)
/-- a new object, frozen -/
theorem fe_fn {f : Nv → R D} (h : FN X g W e f) : FE X g W e f := peImp h fun σ H Q ⟨ρ, G, E, F, st, q⟩ => by
  refine ⟨ρ, G, E, F, st, ?_⟩
  revert q
  cases f E with
  | val d E1 => exact fun q p o F' H' st' gn ow s => q (.ref p) _ H' (st'.freeze gn) (s.trans (Same.new (st'.dj p o upd_same))) (ow.rep (st'.dj p o upd_same))
  | exc c fs E' => exact fun q => q
  | bad => exact fun q => q
end
end FL

namespace FL
open PySem PySem.Spec PyProof.Rows L2

/-! ## statements -/
def fSeq (s t : Nv → R Fl) : Nv → R Fl := fun E => match s E with
  | .val .nx E1 => t E1
  | r => r
def fNx : Nv → R Fl := fun E => .val .nx E
def fBrk : Nv → R Fl := fun E => .val .bk E
def fCnt : Nv → R Fl := fun E => .val .ct E
def fDrop (f : Nv → R D) : Nv → R Fl := fun E => (f E).bind fun _ E1 => .val .nx E1
def fRet (f : Nv → R D) : Nv → R Fl := fun E => (f E).bind fun d E1 => .val (.rt d) E1
def fRetN (f : Nv → R D) : Nv → R Fl := fun E => (f E).bind fun d E1 => .val (.rn d) E1
def fRetO (i : Nat) : Nv → R Fl := fun E => match E[i]? with
  | some (.own d) => .val (.rn d) (E.set i .no)
  | _ => .bad
def fRet0 : Nv → R Fl := fun E => .val (.rt .non) E
def fSet (i : Nat) (f : Nv → R D) : Nv → R Fl := fun E => (f E).bind fun d E1 => .val .nx (E1.set i (.fz d))
def fSetN (i : Nat) (f : Nv → R D) : Nv → R Fl := fun E => (f E).bind fun d E1 => .val .nx (E1.set i (.own d))
def fBad {α : Type} : Nv → R α := fun _ => .bad
section
variable {X : Cx} {g : Gm} {W : WX} {e a b c : Expr} {es : List Expr} {pos : Pos} {st : Stmt} {sts : List Stmt}
theorem fss_nil : FSs X g W [] fNx := pssImp pss_nil fun D σ H ⟨ρ, G, E, F, st, q⟩ => q σ F H st (Same.refl _)
theorem fss_cons {s t : Nv → R Fl} (h : FS X g W st s) (k : FSs X g W sts t) : FSs X g W (st :: sts) (fSeq s t) := pssImp (pss_cons h k) fun D σ H ⟨ρ, G, E, F, st, q⟩ => by
  refine ⟨ρ, G, E, F, st, ?_⟩
  unfold fSeq at q
  revert q
  cases s E with
  | val fl E1 =>
    cases fl with
    | nx => exact fun q σ' F' H' st' ss => ⟨ρ, G, E1, F', st', postS.mono ss q⟩
    | rt d => exact fun q => q
    | rn d => exact fun q => q
    | bk => exact fun q => q
    | ct => exact fun q => q
  | exc c f E1 => exact fun q => q
  | bad => exact fun q => q
theorem fss_one {s : Nv → R Fl} (h : FS X g W st s) : FSs X g W [st] s := pss_one h
theorem fss_never : FSs X g W sts fBad := pssImp pss_never fun D σ H ⟨ρ, G, E, F, st, q⟩ => q
theorem fs_never : FS X g W st fBad := psImp ps_never fun D σ H ⟨ρ, G, E, F, st, q⟩ => q
theorem fs_pass : FS X g W (.Pass pos) fNx := psImp ps_pass fun D σ H ⟨ρ, G, E, F, st, q⟩ => q σ F H st (Same.refl _)
theorem fs_break : FS X g W (.Break pos) fBrk := psImp ps_break fun D σ H ⟨ρ, G, E, F, st, q⟩ => q σ F H st (Same.refl _)
theorem fs_continue : FS X g W (.Continue pos) fCnt := psImp ps_continue fun D σ H ⟨ρ, G, E, F, st, q⟩ => q σ F H st (Same.refl _)
theorem fs_doc {x j pos pos'} : FS X g W (.Expr (.Constant (.str x) j pos) pos') fNx := psImp ps_doc fun D σ H ⟨ρ, G, E, F, st, q⟩ => q σ F H st (Same.refl _)
theorem fs_expr {f : Nv → R D} (h : PS X st (tDrop (tG g W (relD g) f))) : FS X g W st (fDrop f) := psImp h fun D σ H ⟨ρ, G, E, F, st, q⟩ =>
  bindS st q fun d E1 v F1 H1 st1 s1 r1 q1 => q1 σ F1 H1 st1 (Same.refl _)
theorem fs_ret {f : Nv → R D} (h : FE X g W e f) : FS X g W (.Return (some e) pos) (fRet f) := psImp (ps_ret h) fun D σ H ⟨ρ, G, E, F, st, q⟩ =>
  bindS st q fun d E1 v F1 H1 st1 s1 r1 q1 => q1 v σ F1 H1 st1 (Same.refl _) r1
theorem fs_retN {f : Nv → R D} (h : FN X g W e f) : FS X g W (.Return (some e) pos) (fRetN f) := psImp (ps_ret h) fun D σ H ⟨ρ, G, E, F, st, q⟩ =>
  bindNS st q fun d E1 p o F1 H1 st1 n ow s q1 => q1 p o σ F1 H1 st1 n ow (Same.refl _)
theorem fs_retO {i : Nat} (h : PE X e (tVar i)) : FS X g W (.Return (some e) pos) (fRetO i) := psImp (ps_ret h) fun D σ H ⟨ρ, G, E, F, st, q⟩ => by
  unfold fRetO at q
  cases z : E[i]? with
  | none => simp only [z] at q; exact q.elim
  | some s =>
    simp only [z] at q
    cases s with
    | own d =>
      obtain ⟨p, x, _, _, o, hp, _⟩ := st.at z rfl
      obtain ⟨st1, gn, ow⟩ := st.give z rfl x hp
      exact ⟨.ref p, x, q p o σ F H st1 gn ow (Same.refl _)⟩
    | _ => exact q.elim
theorem fs_ret0 : FS X g W (.Return none pos) fRet0 := psImp ps_retN fun D σ H ⟨ρ, G, E, F, st, q⟩ => q .non σ F H st (Same.refl _) rfl
theorem fs_if {t : Nv → R Bool} {sa sb : Nv → R Fl} {la lb : List Stmt} (ht : FT X g W c t) (ha : FSs X g W la sa) (hb : FSs X g W lb sb) : FS X g W (.If c la lb pos) (fIf t sa sb) := psImp (ps_if ht ha hb) fun D σ H ⟨ρ, G, E, F, st, q⟩ =>
  bindS st q fun k E1 c F1 H1 st1 s1 r1 q1 => by
    obtain rfl : k = c := r1
    cases k with
    | true => rw [if_pos rfl]; exact ⟨ρ, G, E1, F1, st1, q1⟩
    | false => rw [if_neg Bool.false_ne_true]; exact ⟨ρ, G, E1, F1, st1, q1⟩
theorem fs_set {i : Nat} {f : Nv → R D} (h : PS X st (tAsg (tG g W (relD g) f) (gName i))) : FS X g W st (fSet i f) := psImp h fun D σ H ⟨ρ, G, E, F, st, q⟩ =>
  bindS st q fun d E1 v F1 H1 st1 s1 r1 q1 => q1 _ F1 H1 (st1.store r1) (Same.refl _)
theorem fs_setN {i : Nat} {f : Nv → R D} (h : PS X st (tAsg (tN g W f) (gName i))) : FS X g W st (fSetN i f) := psImp h fun D σ H ⟨ρ, G, E, F, st, q⟩ =>
  bindNS st q fun d E1 p o F1 H1 st1 n ow s q1 => q1 _ F1 H1 (st1.take n ow) (Same.refl _)
end

/-! ## targets -/
abbrev Bd := D → Nv → Option Nv
def tGt (g : Gm) (b : Bd) : TG := fun v σ H Q => ∃ ρ G E F d, StOk g ρ G E F σ H ∧ Rep g F d v ∧ ∃ E', b d E = some E' ∧ ∀ σ' F' H', StOk g ρ G E' F' σ' H' → Same F F' → Q σ' H'
def bAll : List Bd → List D → Nv → Option Nv
  | [], [], E => some E
  | b :: bs, d :: ds, E => (b d E).bind fun E1 => bAll bs ds E1
  | _, _, _ => none
def tGts (g : Gm) (bs : List Bd) : TGs := fun vs σ H Q => ∃ ρ G E F ds, StOk g ρ G E F σ H ∧ RepL g F ds vs ∧ ∃ E', bAll bs ds E = some E' ∧ ∀ σ' F' H', StOk g ρ G E' F' σ' H' → Same F F' → Q σ' H'
def bName (i : Nat) : Bd := fun d E => some (E.set i (.fz d))
def bTup (bs : List Bd) : Bd := fun d E => match d with
  | .tup ds => bAll bs ds E
  | _ => none
theorem bAll_len : ∀ {bs : List Bd} {ds : List D} {E E' : Nv}, bAll bs ds E = some E' → ds.length = bs.length
  | [], [], _, _, _ => rfl
  | _ :: bs, _ :: ds, _, _, h => by
    unfold bAll at h
    obtain ⟨E1, _, h2⟩ := Option.bind_eq_some_iff.mp h
    simp [bAll_len h2]
  | [], _ :: _, _, _, h => by simp [bAll] at h
  | _ :: _, [], _, _, h => by simp [bAll] at h
section
variable {X : Cx} {g : Gm} {W : WX} {e t : Expr} {es : List Expr} {pos : Pos} {st : Stmt}
theorem pgImp {r r' : TG} (h : PG X t r) (i : ∀ v σ H Q, r' v σ H Q → r v σ H Q) : PG X t r' := ⟨fun pins s σ H v u Q I rv q => h.run pins s σ H v u Q I rv (i v σ H Q q)⟩
theorem pgsImp {r r' : TGs} (h : PGs X es r) (i : ∀ v σ H Q, r' v σ H Q → r v σ H Q) : PGs X es r' := ⟨fun pins s σ H v u Q I rv q => h.run pins s σ H v u Q I rv (i v σ H Q q)⟩
theorem fg_name {i : Nat} (h : PG X t (gName i)) : PG X t (tGt g (bName i)) := pgImp h fun v σ H Q ⟨ρ, G, E, F, d, st, r, E', e, q⟩ => by
  cases e
  exact q _ F H (st.store r) (Same.refl _)
theorem fgs_nil : PGs X [] (tGts g []) := pgsImp pgs_nil fun vs σ H Q ⟨ρ, G, E, F, ds, st, r, E', e, q⟩ => by
  cases ds with
  | nil => cases e; exact ⟨r, q σ F H st (Same.refl _)⟩
  | cons d ds => cases e
theorem fgs_cons {b : Bd} {bs : List Bd} (h : PG X e (tGt g b)) (k : PGs X es (tGts g bs)) (hs : (assignEach (e :: es) X.env).map (·.2) = assign e X.env :: (assignEach es X.env).map (·.2) := by rfl) : PGs X (e :: es) (tGts g (b :: bs)) :=
  pgsImp (pgs_cons h k hs) fun vs σ H Q ⟨ρ, G, E, F, ds, st, r, E', e, q⟩ => by
    cases ds with
    | nil => cases e
    | cons d ds =>
      obtain ⟨x, xs, rfl, r1, r2⟩ := r
      obtain ⟨E1, e1, e2⟩ := Option.bind_eq_some_iff.mp e
      exact ⟨x, xs, rfl, ρ, G, E, F, d, st, r1, E1, e1, fun σ1 F1 H1 st1 s1 => ⟨ρ, G, E1, F1, ds, st1, r2.mono s1, E', e2, fun σ' F' H' st' s' => q σ' F' H' st' (s1.trans s')⟩⟩
theorem fg_tup {bs : List Bd} {k : Nat} (hc : X.calm = true) (h : PGs X es (tGts g bs)) (hK : X.K = g.K) (hn : (assignEach es X.env).length = bs.length := by rfl) (hst : (assignEach es X.env).findIdx? (·.1) = none := by rfl) : PG X (.Tuple es k pos) (tGt g (bTup bs)) :=
  pgImp (pg_tup hc h hn hst) fun v σ H Q ⟨ρ, G, E, F, d, st, r, E', e, q⟩ => by
    cases d with
    | tup ds =>
      obtain ⟨a, xs, rfl, rx, rl⟩ := r
      refine ⟨a, xs, rfl, by rw [hK]; exact same_t st.sf rx, ?_, ρ, G, E, F, ds, st, rl, E', e, q⟩
      rw [← rl.length]; exact bAll_len e
    | _ => cases e
def fAsg (f : Nv → R D) (b : Bd) : Nv → R Fl := fun E => (f E).bind fun d E1 => match b d E1 with
  | some E2 => .val .nx E2
  | none => .bad
theorem fs_asg {f : Nv → R D} {b : Bd} (h : PS X st (tAsg (tG g W (relD g) f) (tGt g b))) : FS X g W st (fAsg f b) := psImp h fun D σ H ⟨ρ, G, E, F, st, q⟩ =>
  bindS st q fun d E1 v F1 H1 st1 s1 r1 q1 => by
    cases z : b d E1 with
    | none => simp only [z] at q1; exact q1.elim
    | some E2 =>
      simp only [z] at q1
      exact ⟨ρ, G, E1, F1, d, st1, r1, E2, z, q1⟩
/-- a, b = x, y -/
def fPar (i j : Nat) (f h : Nv → R D) : Nv → R Fl := fun E => (f E).bind fun d E1 => (h E1).bind fun e E2 => .val .nx ((E2.set i (.fz d)).set j (.fz e))
theorem fs_par {i j : Nat} {f h : Nv → R D} (k : PS X st (tPar i j (tCons (tG g W (relD g) f) (tCons (tG g W (relD g) h) tNil)))) : FS X g W st (fPar i j f h) := psImp k fun D σ H ⟨ρ, G, E, F, st, q⟩ =>
  bindS st q fun d E1 v F1 H1 st1 s1 r1 q1 => bindS st1 q1 fun e E2 u F2 H2 st2 s2 r2 q2 =>
    ⟨v, u, rfl, q2 _ F2 H2 ((st2.store (r1.mono s2)).store r2) (Same.refl _)⟩
def fParNE (i j : Nat) (f h : Nv → R D) : Nv → R Fl := fun E => (f E).bind fun d E1 => (h E1).bind fun e E2 => .val .nx ((E2.set i (.own d)).set j (.fz e))
theorem fs_parNE {i j : Nat} {f h : Nv → R D} (k : PS X st (tPar i j (tCons (tN g W f) (tCons (tG g W (relD g) h) tNil)))) : FS X g W st (fParNE i j f h) := psImp k fun D σ H ⟨ρ, G, E, F, st, q⟩ =>
  bindNS st q fun d E1 p o F1 H1 st1 gn ow s1 q1 => by
    refine ⟨ρ, _, E1, F1, st1, ?_⟩
    revert q1
    cases h E1 with
    | val e E2 => exact fun q1 u F2 H2 st2 s2 r2 => ⟨.ref p, u, rfl, q1 _ F2 H2 ((st2.take gn (ow.mono s2)).store r2) s2⟩
    | exc c fs E' => exact fun q1 dx F' H' st' s x => q1 dx σ F' H' (st'.untemp gn) s x
    | bad => exact fun q1 => q1
def fParEN (i j : Nat) (f h : Nv → R D) : Nv → R Fl := fun E => (f E).bind fun d E1 => (h E1).bind fun e E2 => .val .nx ((E2.set i (.fz d)).set j (.own e))
theorem fs_parEN {i j : Nat} {f h : Nv → R D} (k : PS X st (tPar i j (tCons (tG g W (relD g) f) (tCons (tN g W h) tNil)))) : FS X g W st (fParEN i j f h) := psImp k fun D σ H ⟨ρ, G, E, F, st, q⟩ =>
  bindS st q fun d E1 v F1 H1 st1 s1 r1 q1 => bindNS st1 q1 fun e E2 p o F2 H2 st2 gn ow s2 q2 =>
    ⟨v, .ref p, rfl, q2 _ F2 H2 ((st2.store (r1.mono s2)).take gn ow) (Same.refl _)⟩
def fParNN (i j : Nat) (f h : Nv → R D) : Nv → R Fl := fun E => (f E).bind fun d E1 => (h E1).bind fun e E2 => .val .nx ((E2.set i (.own d)).set j (.own e))
theorem fs_parNN {i j : Nat} {f h : Nv → R D} (k : PS X st (tPar i j (tCons (tN g W f) (tCons (tN g W h) tNil)))) : FS X g W st (fParNN i j f h) := psImp k fun D σ H ⟨ρ, G, E, F, st, q⟩ =>
  bindNS st q fun d E1 p o F1 H1 st1 gn ow s1 q1 => by
    refine ⟨ρ, _, E1, F1, st1, ?_⟩
    revert q1
    cases h E1 with
    | val e E2 =>
      refine fun q1 p2 o2 F2 H2 st2 gn2 ow2 s2 => ⟨.ref p, .ref p2, rfl, q1 _ F2 H2 ?_ s2⟩
      have ne : p2 ≠ p := fun z => by rw [z, upd_same] at gn2; cases gn2
      have comm : upd (upd G p o) p2 o2 = upd (upd G p2 o2) p o := by
        funext b
        unfold upd
        by_cases h1 : b = p <;> by_cases h2 : b = p2
        · exact absurd (h2.symm.trans h1) ne
        · rw [if_neg h2, if_pos h1, if_pos h1]
        · rw [if_pos h2, if_neg h1, if_pos h2]
        · rw [if_neg h2, if_neg h1, if_neg h1, if_neg h2]
      rw [comm] at st2
      have g2 : G p2 = none := by rw [upd_ne ne] at gn2; exact gn2
      exact (st2.take (by rw [upd_ne (Ne.symm ne)]; exact gn) (ow.mono s2)).take g2 ow2
    | exc c fs E' => exact fun q1 dx F' H' st' s x => q1 dx σ F' H' (st'.untemp gn) s x
    | bad => exact fun q1 => q1
end

/-! ## an owned list, written -/
def setIx (j : Nat) (d k : D) (E : Nv) : R Fl := match E[j]? with
  | some s => match s.cell, k with
    | some (.lst ds), .int i => match ixN ds.length i with
      | some m => .val .nx (E.set j (s.put (.lst (ds.set m d))))
      | none => .bad
    | _, _ => .bad
  | none => .bad
def fSetIx (j : Nat) (fi f : Nv → R D) : Nv → R Fl := fun E => (f E).bind fun d E1 => (fPk j E1).bind fun _ E2 => (fi E2).bind fun k E3 => setIx j d k E3
/-- a method of an owned slot's object: its content and the operands to its answer and the new content -/
def MtOk (g : Gm) (r : V → List V → Hp → VK → Prop) (o : D → List D → Option (D × D)) : Prop := ∀ (F H : Hp) (p : Addr) (ob : HO) (vs : List V) (d z d' : D) (ds : List D) (Q : VK), Same F H → F p = none → H p = some ob → OwnO g F d ob → RepL g F ds vs → o d ds = some (z, d') →
  (∀ w ob', OwnO g F d' ob' → Rep g F z w → Q w (upd H p ob')) → r (.ref p) vs H Q
def isLst : D → Bool
  | .lst _ => true
  | _ => false
def resMt (j : Nat) (o : D → List D → Option (D × D)) (as : List Ar) (E : Nv) : R D := match valsOf as with
  | none => .bad
  | some ds => match E[j]? with
    | none => .bad
    | some s => match s.cell with
      | none => .bad
      | some c => match o c ds with
        | none => .bad
        | some zc => .val zc.1 (E.set j (s.put zc.2))
def fMt (j : Nat) (o : D → List D → Option (D × D)) (fs : Nv → R (List Ar)) : Nv → R D := fun E => (fPk j E).bind fun _ E1 => match Ar.get E1 (.pk j) with
  | none => .bad
  | some c => if isLst c = true then (fs E1).bind fun as E2 => resMt j o as E2 else .bad
section
variable {X : Cx} {g : Gm} {W : WX} {e t : Expr} {es : List Expr} {pos : Pos} {st : Stmt}
theorem fPk_pk {j : Nat} {E E1 : Nv} {a : Ar} (h : fPk j E = .val a E1) : a = .pk j ∧ E1 = E := by
  unfold fPk at h
  split at h
  · split at h
    · cases h; exact ⟨rfl, rfl⟩
    · cases h
  · cases h
theorem fs_setIx {j : Nat} {fi f : Nv → R D} (h : PS X st (tAsg (tG g W (relD g) f) (gSub (tG g W (relA g) (fPk j)) (tG g W (relD g) fi) rSetL))) : FS X g W st (fSetIx j fi f) := psImp h fun D σ H ⟨ρ, G, E, F, st, q⟩ =>
  bindS st q fun d E1 v F1 H1 st1 s1 r1 q1 => by
    have pk : ∀ a E', fPk j E1 = .val a E' → a = .pk j := fun a E' z => (fPk_pk z).1
    refine ⟨ρ, G, E1, F1, st1, ?_⟩
    revert q1
    cases z : fPk j E1 with
    | exc c fs E' => exact fun q1 dx F' H' st' s x => q1 dx σ F' H' st' s x
    | bad => exact fun q1 => q1
    | val a E2 =>
      obtain ⟨rfl, rfl⟩ := fPk_pk z
      intro q1 x F2 H2 st2 s2 hx
      have hx : σ[j]? = some (some x) := hx
      refine bindS st2 (postS.mono s2 q1) fun k E3 iv F3 H3 st3 s3 r3 q3 => ?_
      unfold setIx at q3
      cases z : E3[j]? with
      | none => simp only [z] at q3; exact q3.elim
      | some s =>
        simp only [z] at q3
        cases c : s.cell with
        | none => simp only [c] at q3; exact q3.elim
        | some cd =>
          simp only [c] at q3
          cases cd with
          | lst ds =>
            cases k with
            | int i =>
              simp only at q3
              cases m : ixN ds.length i with
              | none => simp only [m] at q3; exact q3.elim
              | some mm =>
                simp only [m] at q3
                obtain ⟨p, y, fp, _, o, hp, xs, e0, rl⟩ := st3.at z c
                subst e0
                rw [hx] at y
                cases y
                obtain rfl : iv = .int i := r3
                exact ⟨p, xs, i, mm, rfl, rfl, hp, by rw [← rl.length]; exact m, q3 σ F3 _ (st3.write z c hx ⟨_, rfl, rl.set (r1.mono (s2.trans s3))⟩) (Same.refl _)⟩
            | _ => exact q3.elim
          | _ => exact q3.elim
theorem fe_mt {j : Nat} {r : V → List V → Hp → VK → Prop} {o : D → List D → Option (D × D)} {fs : Nv → R (List Ar)} (hr : MtOk g r o) (h : PE X e (tBM X.K "list" r (tG g W (relA g) (fPk j)) (tG g W (relAs g) fs))) : FE X g W e (fMt j o fs) :=
  peImp h fun σ H Q ⟨ρ, G, E, F, st, q⟩ => by
    refine ⟨ρ, G, E, F, st, ?_⟩
    unfold fMt at q
    revert q
    cases z : fPk j E with
    | exc c fs E' => exact fun q => q
    | bad => exact fun q => q
    | val a E1 =>
      obtain ⟨rfl, rfl⟩ := fPk_pk z
      intro q x F1 H1 st1 s1 hx
      have q : post g W (relD g) ρ G F σ Q (match Ar.get E1 (.pk j) with
        | none => .bad
        | some c => if isLst c = true then (fs E1).bind fun as E2 => resMt j o as E2 else .bad) := q
      cases z1 : Ar.get E1 (.pk j) with
      | none => simp only [z1] at q; exact q.elim
      | some c =>
        simp only [z1] at q
        have rh := ar_ok st1 (show ArOk g F1 σ (.pk j) x from hx) z1
        by_cases hc : isLst c = true
        · rw [if_pos hc] at q
          cases c with
          | lst ds =>
            obtain ⟨p, xs, rfl, hp, _⟩ := rh.lst st1.sf
            refine ⟨.inl ⟨rfl, xs, .of hp⟩, bindE st1 (post.mono s1 q) fun as E2 vs F2 H2 st2 s2 r2 q2 => ?_⟩
            unfold resMt at q2
            cases z2 : valsOf as with
            | none => simp only [z2] at q2; exact q2.elim
            | some es =>
              simp only [z2] at q2
              cases z3 : E2[j]? with
              | none => simp only [z3] at q2; exact q2.elim
              | some s =>
                simp only [z3] at q2
                cases z4 : s.cell with
                | none => simp only [z4] at q2; exact q2.elim
                | some c2 =>
                  simp only [z4] at q2
                  cases z5 : o c2 es with
                  | none => simp only [z5] at q2; exact q2.elim
                  | some zc =>
                    simp only [z5] at q2
                    obtain ⟨zz, c'⟩ := zc
                    obtain ⟨p2, y, fp, _, ob, hp2, ow⟩ := st2.at z3 z4
                    have hx' : σ[j]? = some (some (.ref p)) := hx
                    rw [hx'] at y
                    cases y
                    exact hr F2 H2 p ob vs c2 zz c' es Q st2.sf fp hp2 ow (valsOf_ok r2 z2) z5 fun w ob' ow' rw' => q2 w F2 _ (st2.write z3 z4 hx' ow') (Same.refl _) rw'
          | _ => simp [isLst] at hc
        · rw [if_neg hc] at q
          exact q.elim
theorem fe_mt0 {j : Nat} {r : V → List V → Hp → VK → Prop} {o : D → List D → Option (D × D)} (hr : MtOk g r o) (h : PE X e (tBM0 X.K "list" r (tG g W (relA g) (fPk j)))) : FE X g W e (fMt j o (fAs [])) :=
  peImp h fun σ H Q ⟨ρ, G, E, F, st, q⟩ => by
    refine ⟨ρ, G, E, F, st, ?_⟩
    unfold fMt at q
    revert q
    cases z : fPk j E with
    | exc c fs E' => exact fun q => q
    | bad => exact fun q => q
    | val a E1 =>
      obtain ⟨rfl, rfl⟩ := fPk_pk z
      intro q x F1 H1 st1 s1 hx
      have q : post g W (relD g) ρ G F σ Q (match Ar.get E1 (.pk j) with
        | none => .bad
        | some c => if isLst c = true then (fAs [] E1).bind fun as E2 => resMt j o as E2 else .bad) := q
      cases z1 : Ar.get E1 (.pk j) with
      | none => simp only [z1] at q; exact q.elim
      | some c =>
        simp only [z1] at q
        have rh := ar_ok st1 (show ArOk g F1 σ (.pk j) x from hx) z1
        by_cases hc : isLst c = true
        · rw [if_pos hc] at q
          cases c with
          | lst ds =>
            obtain ⟨p, xs, rfl, hp, _⟩ := rh.lst st1.sf
            refine ⟨.inl ⟨rfl, xs, .of hp⟩, ?_⟩
            have q2 : post g W (relD g) ρ G F1 σ Q (resMt j o [] E1) := post.mono s1 q
            unfold resMt at q2
            cases z2 : valsOf [] with
            | none => cases z2
            | some es =>
              simp only [z2] at q2
              cases z3 : E1[j]? with
              | none => simp only [z3] at q2; exact q2.elim
              | some s =>
                simp only [z3] at q2
                cases z4 : s.cell with
                | none => simp only [z4] at q2; exact q2.elim
                | some c2 =>
                  simp only [z4] at q2
                  cases z5 : o c2 es with
                  | none => simp only [z5] at q2; exact q2.elim
                  | some zc =>
                    simp only [z5] at q2
                    obtain ⟨zz, c'⟩ := zc
                    obtain ⟨p2, y, fp, _, ob, hp2, ow⟩ := st1.at z3 z4
                    have hx' : σ[j]? = some (some (.ref p)) := hx
                    rw [hx'] at y
                    cases y
                    cases z2
                    exact hr F1 H1 p ob [] c2 zz c' [] Q st1.sf fp hp2 ow rfl z5 fun w ob' ow' rw' => q2 w F1 _ (st1.write z3 z4 hx' ow') (Same.refl _) rw'
          | _ => simp [isLst] at hc
        · rw [if_neg hc] at q
          exact q.elim
end

/-! ## loops -/
structure Walks (g : Gm) (F : Hp) (J : It) (ds : List D) : Prop where
  goes : ∀ i H F2, Same F F2 → Same F2 H → i < ds.length → J.go i H
  stops : ∀ H F2, Same F F2 → Same F2 H → J.stop ds.length H
  yields : ∀ i H F2 x H', Same F F2 → Same F2 H → i < ds.length → J.yld i H x H' → ∃ d F3, ds[i]? = some d ∧ Grow g F2 H F3 H' ∧ Rep g F3 d x
def postI (g : Gm) (W : WX) (ρ : Nat → Addr) (G F : Hp) (σ : L2.St) (Q : It → Hp → Prop) : R (List D) → Prop
  | .val ds E' => ∀ J F' H', StOk g ρ G E' F' σ H' → Same F F' → Walks g F' J ds → Q J H'
  | .exc c fs E' => postX g W ρ G F σ c fs E'
  | .bad => False
def tI (g : Gm) (W : WX) (f : Nv → R (List D)) : TI := fun σ H Q => ∃ ρ G E F, StOk g ρ G E F σ H ∧ postI g W ρ G F σ Q (f E)
abbrev FI (X : Cx) (g : Gm) (W : WX) (tg e : Expr) (f : Nv → R (List D)) : Prop := PI X tg e (tI g W f)
def forL (b : Bd) (s : Nv → R Fl) : List D → Nv → R Fl
  | [], E => .val .nx E
  | d :: ds, E => match b d E with
    | none => .bad
    | some E1 => match s E1 with
      | .val .nx E2 => forL b s ds E2
      | .val .ct E2 => forL b s ds E2
      | .val .bk E2 => .val .nx E2
      | .val (.rt x) E2 => .val (.rt x) E2
      | .val (.rn x) E2 => .val (.rn x) E2
      | .exc c f E2 => .exc c f E2
      | .bad => .bad
def fFor (fi : Nv → R (List D)) (b : Bd) (s : Nv → R Fl) : Nv → R Fl := fun E => (fi E).bind fun ds E1 => forL b s ds E1
def whileN (t : Nv → R Bool) (s : Nv → R Fl) : Nat → Nv → R Fl
  | 0, _ => .bad
  | n + 1, E => (t E).bind fun k E1 => if k = true then (match s E1 with
      | .val .nx E2 => whileN t s n E2
      | .val .ct E2 => whileN t s n E2
      | .val .bk E2 => .val .nx E2
      | .val (.rt x) E2 => .val (.rt x) E2
      | .val (.rn x) E2 => .val (.rn x) E2
      | .exc c f E2 => .exc c f E2
      | .bad => .bad) else .val .nx E1
section
variable {X : Cx} {g : Gm} {W : WX} {e t : Expr} {es : List Expr} {pos : Pos} {st : Stmt}
theorem piImp {tg e : Expr} {r r' : TI} (h : PI X tg e r) (i : ∀ σ H Q, r' σ H Q → r σ H Q) : PI X tg e r' := ⟨fun pins s σ H Q I q => h.run pins s σ H Q I (i σ H Q q)⟩
theorem fs_for {fi : Nv → R (List D)} {b : Bd} {s : Nv → R Fl} (h : PS X st (tFor (tI g W fi) (tGt g b) (tS g W s))) : FS X g W st (fFor fi b s) := psImp h fun D σ H ⟨ρ, G, E, F, st, q⟩ => by
  refine ⟨ρ, G, E, F, st, ?_⟩
  unfold fFor at q
  revert q
  cases fi E with
  | exc c fs E' => exact fun q dx F' H' st' s x => q dx σ F' H' st' s x
  | bad => exact fun q => q
  | val ds E1 =>
    intro q J F1 H1 st1 s1 w
    have q : postS g W ρ G F D (forL b s ds E1) := q
    refine ⟨fun i m σ H => i ≤ ds.length ∧ m = ds.length - i ∧ ∃ F2 E2, StOk g ρ G E2 F2 σ H ∧ Same F1 F2 ∧ postS g W ρ G F2 D (forL b s (ds.drop i) E2), ⟨_, Nat.zero_le _, rfl, F1, E1, st1, Same.refl _, postS.mono s1 (by simpa using q)⟩, ?_⟩
    rintro i m σ2 H2 ⟨hi, rfl, F2, E2, st2, s2, q2⟩
    by_cases hlt : i < ds.length
    · refine .inr ⟨w.goes i H2 F2 s2 st2.sf hlt, fun σ' H' => i + 1 ≤ ds.length ∧ ∃ F2 E2, StOk g ρ G E2 F2 σ' H' ∧ Same F1 F2 ∧ postS g W ρ G F2 D (forL b s (ds.drop (i + 1)) E2), fun σ' H' ⟨a, r⟩ => ⟨ds.length - (i + 1), by omega, a, rfl, r⟩, fun x H3 y => ?_⟩
      obtain ⟨d, F3, hd, gr, r⟩ := w.yields i H2 F2 x H3 s2 st2.sf hlt y
      have hdrop : ds.drop i = d :: ds.drop (i + 1) := by
        rw [List.drop_eq_getElem_cons hlt]
        rw [List.getElem?_eq_getElem hlt] at hd
        rw [Option.some.inj hd]
      rw [hdrop] at q2
      unfold forL at q2
      cases z : b d E2 with
      | none => simp only [z] at q2; exact q2.elim
      | some E3 =>
        simp only [z] at q2
        refine ⟨ρ, G, E2, F3, d, gr.2 _ _ _ _ st2, r, E3, z, fun σ4 F4 H4 st4 s4 => ⟨ρ, G, E3, F4, st4, ?_⟩⟩
        have q3 := postS.mono (gr.1.trans s4) q2
        have s14 : Same F1 F4 := s2.trans (gr.1.trans s4)
        revert q3
        cases s E3 with
        | exc c f E5 => exact fun q => q
        | bad => exact fun q => q
        | val fl E5 =>
          cases fl with
          | nx => exact fun q σ5 F5 H5 st5 s5 => ⟨hlt, F5, E5, st5, s14.trans s5, postS.mono s5 q⟩
          | ct => exact fun q σ5 F5 H5 st5 s5 => ⟨hlt, F5, E5, st5, s14.trans s5, postS.mono s5 q⟩
          | bk => exact fun q => q
          | rt x => exact fun q => q
          | rn x => exact fun q => q
    · have e : i = ds.length := by omega
      subst e
      rw [List.drop_length] at q2
      exact .inl ⟨w.stops H2 F2 s2 st2.sf, q2 σ2 F2 H2 st2 (Same.refl _)⟩
theorem fs_while {ft : Nv → R Bool} {s : Nv → R Fl} (n : Nat) (h : PS X st (tWhile (tG g W relB ft) (tS g W s))) : FS X g W st (whileN ft s n) := psImp h fun D σ H ⟨ρ, G, E, F, st, q⟩ => by
  refine ⟨fun m σ H => ∃ E F, StOk g ρ G E F σ H ∧ postS g W ρ G F D (whileN ft s m E), ⟨n, E, F, st, q⟩, ?_⟩
  rintro m σ2 H2 ⟨E2, F2, st2, q2⟩
  cases m with
  | zero => exact q2.elim
  | succ m =>
    refine bindS st2 q2 fun k E3 c F3 H3 st3 s3 r3 q3 => ?_
    obtain rfl : k = c := r3
    cases k with
    | false => rw [if_neg Bool.false_ne_true]; exact q3 σ2 F3 H3 st3 (Same.refl _)
    | true =>
      rw [if_pos rfl]
      refine ⟨fun σ' H' => ∃ E F, StOk g ρ G E F σ' H' ∧ postS g W ρ G F D (whileN ft s m E), fun σ' H' r => ⟨m, Nat.lt_succ_self _, r⟩, ρ, G, E3, F3, st3, ?_⟩
      rw [if_pos rfl] at q3
      revert q3
      cases s E3 with
      | exc c f E5 => exact fun q => q
      | bad => exact fun q => q
      | val fl E5 =>
        cases fl with
        | nx => exact fun q σ5 F5 H5 st5 s5 => ⟨E5, F5, st5, postS.mono s5 q⟩
        | ct => exact fun q σ5 F5 H5 st5 s5 => ⟨E5, F5, st5, postS.mono s5 q⟩
        | bk => exact fun q => q
        | rt x => exact fun q => q
        | rn x => exact fun q => q
end

/-! ## comprehensions -/
def wipeE (E : Nv) : List Nat → Nv
  | [] => E
  | v :: vs => (wipeE E vs).set v .no
def keepF : Option Sl → Sl
  | some (.fz d) => .fz d
  | _ => .no
/-- behind the block: E2, but the block's names as they were in E1 -/
def restoreE (E1 E2 : Nv) : List Nat → Nv
  | [] => E2
  | v :: vs => (restoreE E1 E2 vs).set v (keepF E1[v]?)
def R.nox {α : Type} : R α → R α
  | .exc _ _ _ => .bad
  | r => r
def lcL (b : Bd) (t : Nv → R Bool) (f : Nv → R D) (vs : List Nat) : List D → List D → Nv → R (List D)
  | [], acc, E => .val acc E
  | d :: ds, acc, E => match b d E with
    | none => .bad
    | some E1 => (t E1).nox.bind fun k E2 => if k = true then (f E2).nox.bind fun x E3 => if acc.length < sizeLine then lcL b t f vs ds (acc ++ [x]) (wipeE E3 vs) else .bad else lcL b t f vs ds acc (wipeE E2 vs)
def fLc (fi : Nv → R (List D)) (b : Bd) (t : Nv → R Bool) (f : Nv → R D) (vs : List Nat) : Nv → R D := fun E => (fi E).bind fun ds E1 => (lcL b t f vs ds [] (wipeE E1 vs)).bind fun xs E2 => .val (.lst xs) (restoreE E1 E2 vs)
def tYesF : Nv → R Bool := fun E => .val true E
/-- nothing leaves -/
def W0 : WX := fun _ _ _ _ => False
theorem wipeE_length (E : Nv) : ∀ vs : List Nat, (wipeE E vs).length = E.length
  | [] => rfl
  | v :: vs => by unfold wipeE; rw [List.length_set, wipeE_length E vs]
theorem restoreE_length (E1 E2 : Nv) : ∀ vs : List Nat, (restoreE E1 E2 vs).length = E2.length
  | [] => rfl
  | v :: vs => by unfold restoreE; rw [List.length_set, restoreE_length E1 E2 vs]
theorem wipeE_get {E : Nv} {i : Nat} {s : Sl} : ∀ {vs : List Nat}, (wipeE E vs)[i]? = some s → (E[i]? = some s ∧ i ∉ vs) ∨ s = .no
  | [], h => .inl ⟨h, by simp⟩
  | v :: vs, h => by
    unfold wipeE at h
    by_cases hi : v = i
    · subst hi
      have hv := (List.getElem?_eq_some_iff.mp h).1
      rw [List.length_set] at hv
      rw [List.getElem?_set_self hv] at h
      exact .inr (Option.some.inj h).symm
    · rw [List.getElem?_set_ne hi] at h
      rcases wipeE_get h with ⟨a, b⟩ | a
      · exact .inl ⟨a, by simp only [List.mem_cons, not_or]; exact ⟨fun e => hi e.symm, b⟩⟩
      · exact .inr a
theorem restoreE_get {E1 E2 : Nv} {i : Nat} {s : Sl} : ∀ {vs : List Nat}, (restoreE E1 E2 vs)[i]? = some s → (E2[i]? = some s ∧ i ∉ vs) ∨ s = keepF E1[i]?
  | [], h => .inl ⟨h, by simp⟩
  | v :: vs, h => by
    unfold restoreE at h
    by_cases hi : v = i
    · subst hi
      have hv := (List.getElem?_eq_some_iff.mp h).1
      rw [List.length_set] at hv
      rw [List.getElem?_set_self hv] at h
      exact .inr (Option.some.inj h).symm
    · rw [List.getElem?_set_ne hi] at h
      rcases restoreE_get h with ⟨a, b⟩ | a
      · exact .inl ⟨a, by simp only [List.mem_cons, not_or]; exact ⟨fun e => hi e.symm, b⟩⟩
      · exact .inr a
theorem wipe_other {σ : L2.St} {i : Nat} : ∀ {vs : List Nat}, i ∉ vs → (wipe σ vs)[i]? = σ[i]?
  | [], _ => rfl
  | v :: vs, h => by
    unfold wipe
    simp only [List.mem_cons, not_or] at h
    rw [List.getElem?_set_ne (fun e => h.1 e.symm)]
    exact wipe_other h.2
section
variable {X : Cx} {g : Gm} {W : WX} {e t : Expr} {es : List Expr} {pos : Pos} {st : Stmt} {ρ : Nat → Addr} {G F H : Hp} {E : Nv} {σ : L2.St}
theorem StOk.wiped (st : StOk g ρ G E F σ H) (vs : List Nat) : StOk g ρ G (wipeE E vs) F (wipe σ vs) H := st.reslot (by rw [wipeE_length, wipe_length]; exact st.len) fun i s h => by
  rcases wipeE_get h with ⟨a, b⟩ | a
  · exact .inl ⟨a, wipe_other b⟩
  · exact .inr (.inl a)
/-- only the block's names changed -/
theorem StOk.wiped2 {σ2 : L2.St} (st : StOk g ρ G E F σ2 H) (vs : List Nat) (h : wipe σ2 vs = wipe σ vs) : StOk g ρ G (wipeE E vs) F (wipe σ vs) H := by
  rw [← h]; exact st.wiped vs
theorem StOk.restored {vs : List Nat} {E1 : Nv} {F1 G1 H1 : Hp} (st : StOk g ρ G E F (wipe σ vs) H) (st1 : StOk g ρ G1 E1 F1 σ H1) (sm : Same F1 F) : StOk g ρ G (restoreE E1 E vs) F σ H := st.reslot (by rw [restoreE_length, st.len, wipe_length]) fun i s h => by
  rcases restoreE_get h with ⟨a, b⟩ | a
  · exact .inl ⟨a, (wipe_other b).symm⟩
  · cases z : E1[i]? with
    | none => rw [z] at a; exact .inr (.inl a)
    | some u =>
      rw [z] at a
      cases u with
      | fz d =>
        obtain ⟨v, x, r⟩ := st1.fz i d z
        exact .inr (.inr ⟨d, v, a, x, r.mono sm⟩)
      | _ => exact .inr (.inl a)
/-- a target that changes the slots vs alone -/
def tGv (g : Gm) (vs : List Nat) (b : Bd) : TG := fun v σ H Q => ∃ ρ G E F d, StOk g ρ G E F σ H ∧ Rep g F d v ∧ ∃ E', b d E = some E' ∧ ∀ σ' F' H', StOk g ρ G E' F' σ' H' → Same F F' → wipe σ' vs = wipe σ vs → Q σ' H'
def tGvs (g : Gm) (vs : List Nat) (bs : List Bd) : TGs := fun ws σ H Q => ∃ ρ G E F ds, StOk g ρ G E F σ H ∧ RepL g F ds ws ∧ ∃ E', bAll bs ds E = some E' ∧ ∀ σ' F' H', StOk g ρ G E' F' σ' H' → Same F F' → wipe σ' vs = wipe σ vs → Q σ' H'
theorem wipe_get_in {σ : L2.St} {i : Nat} : ∀ {vs : List Nat}, i ∈ vs → i < σ.length → (wipe σ vs)[i]? = some none
  | v :: vs, h, hl => by
    unfold wipe
    by_cases e : v = i
    · subst e
      rw [List.getElem?_set_self (by rw [wipe_length]; exact hl)]
    · rw [List.getElem?_set_ne e]
      rcases List.mem_cons.mp h with z | z
      · exact absurd z.symm e
      · exact wipe_get_in z hl
theorem wipe_ext {σ σ' : L2.St} {vs : List Nat} (hl : σ'.length = σ.length) (h : ∀ i, i ∉ vs → σ'[i]? = σ[i]?) : wipe σ' vs = wipe σ vs := by
  apply List.ext_getElem?
  intro i
  by_cases hi : i ∈ vs
  · by_cases hlt : i < σ.length
    · rw [wipe_get_in hi hlt, wipe_get_in hi (by omega)]
    · rw [List.getElem?_eq_none (by rw [wipe_length]; omega), List.getElem?_eq_none (by rw [wipe_length]; omega)]
  · rw [wipe_other hi, wipe_other hi]
    exact h i hi
theorem wipe_set {σ : L2.St} {vs : List Nat} {i : Nat} {x : Option V} (h : i ∈ vs) : wipe (σ.set i x) vs = wipe σ vs :=
  wipe_ext (by simp) fun j hj => List.getElem?_set_ne fun e => hj (by rw [← e]; exact h)
theorem wipe_wipe {σ : L2.St} {vs : List Nat} : wipe (wipe σ vs) vs = wipe σ vs := wipe_ext (wipe_length _ _) fun _ hj => wipe_other hj
theorem fgv_name {i : Nat} {vs : List Nat} (hi : i ∈ vs) (h : PG X t (gName i)) : PG X t (tGv g vs (bName i)) := pgImp h fun v σ H Q ⟨ρ, G, E, F, d, st, r, E', e, q⟩ => by
  cases e
  exact q _ F H (st.store r) (Same.refl _) (wipe_set hi)
theorem fgvs_nil {vs : List Nat} : PGs X [] (tGvs g vs []) := pgsImp pgs_nil fun ws σ H Q ⟨ρ, G, E, F, ds, st, r, E', e, q⟩ => by
  cases ds with
  | nil => cases e; exact ⟨r, q σ F H st (Same.refl _) rfl⟩
  | cons d ds => cases e
theorem fgvs_cons {b : Bd} {bs : List Bd} {vs : List Nat} (h : PG X e (tGv g vs b)) (k : PGs X es (tGvs g vs bs)) (hs : (assignEach (e :: es) X.env).map (·.2) = assign e X.env :: (assignEach es X.env).map (·.2) := by rfl) : PGs X (e :: es) (tGvs g vs (b :: bs)) :=
  pgsImp (pgs_cons h k hs) fun ws σ H Q ⟨ρ, G, E, F, ds, st, r, E', e, q⟩ => by
    cases ds with
    | nil => cases e
    | cons d ds =>
      obtain ⟨x, xs, rfl, r1, r2⟩ := r
      obtain ⟨E1, e1, e2⟩ := Option.bind_eq_some_iff.mp e
      exact ⟨x, xs, rfl, ρ, G, E, F, d, st, r1, E1, e1, fun σ1 F1 H1 st1 s1 w1 => ⟨ρ, G, E1, F1, ds, st1, r2.mono s1, E', e2, fun σ' F' H' st' s' w' => q σ' F' H' st' (s1.trans s') (w'.trans w1)⟩⟩
theorem fgv_tup {bs : List Bd} {vs : List Nat} {k : Nat} (hc : X.calm = true) (h : PGs X es (tGvs g vs bs)) (hK : X.K = g.K) (hn : (assignEach es X.env).length = bs.length := by rfl) (hst : (assignEach es X.env).findIdx? (·.1) = none := by rfl) : PG X (.Tuple es k pos) (tGv g vs (bTup bs)) :=
  pgImp (pg_tup hc h hn hst) fun v σ H Q ⟨ρ, G, E, F, d, st, r, E', e, q⟩ => by
    cases d with
    | tup ds =>
      obtain ⟨a, xs, rfl, rx, rl⟩ := r
      refine ⟨a, xs, rfl, by rw [hK]; exact same_t st.sf rx, ?_, ρ, G, E, F, ds, st, rl, E', e, q⟩
      rw [← rl.length]; exact bAll_len e
    | _ => cases e
theorem noxE {α β γ : Type} {rel : Hp → L2.St → α → β → Prop} {f : Nv → R α} {k : α → Nv → R γ} {Q1 : β → Hp → Prop} (P : R γ → Prop) (h : P ((f E).nox.bind k)) (hb : ¬ P .bad) (st : StOk g ρ G E F σ H)
    (cont : ∀ a E1 b F1 H1, StOk g ρ G E1 F1 σ H1 → Same F F1 → rel F1 σ a b → P (k a E1) → Q1 b H1) : tG g W0 rel f σ H Q1 := by
  refine ⟨ρ, G, E, F, st, ?_⟩
  revert h
  cases f E with
  | val a E1 => exact fun h b F1 H1 st1 s1 r1 => cont a E1 b F1 H1 st1 s1 r1 h
  | exc c fs E' => exact fun h => absurd h hb
  | bad => exact fun h => absurd h hb
abbrev FTs (X : Cx) (g : Gm) (W : WX) (ifs : List Expr) (f : Nv → R Bool) : Prop := PTs X ifs (tG g W relB f)
theorem fts_nil : FTs X g W [] tYesF := ⟨fun pins s σ H Q I ⟨ρ, G, E, F, st, q⟩ => pts_nil.run pins s σ H Q I (q true F H st (Same.refl _) rfl)⟩
theorem fts_one {f : Nv → R Bool} (h : FT X g W e f) : FTs X g W [e] f := pts_one h
/-- what the walk of a comprehension asks -/
theorem le_lc {fi : Nv → R (List D)} {b : Bd} {tf : Nv → R Bool} {f : Nv → R D} {vs : List Nat} {σ : L2.St} {H : Hp} {Q : VK} (h : tN g W (fLc fi b tf f vs) σ H Q) : tLc (tI g W fi) (tGv g vs b) (tG g W0 relB tf) (tG g W0 (relD g) f) vs σ H Q := by
  obtain ⟨ρ, G, E, F, st, q⟩ := h
  refine ⟨ρ, G, E, F, st, ?_⟩
  unfold fLc at q
  revert q
  cases fi E with
  | exc c fs E' => exact fun q => q
  | bad => exact fun q => q
  | val ds E1 =>
    intro q J F1 H1 st1 s1 w D hD
    have q : postN g W ρ G F σ Q ((lcL b tf f vs ds [] (wipeE E1 vs)).bind fun xs E2 => .val (.lst xs) (restoreE E1 E2 vs)) := q
    have gD := st1.fG hD
    refine ⟨fun i m H => i ≤ ds.length ∧ m = ds.length - i ∧ ∃ F2 E2 acc xs, StOk g ρ (upd G D (.lst xs)) E2 F2 (wipe σ vs) H ∧ RepL g F2 acc xs ∧ Same F1 F2 ∧
      postN g W ρ G F2 σ Q ((lcL b tf f vs (ds.drop i) acc E2).bind fun xs E2 => .val (.lst xs) (restoreE E1 E2 vs)), ⟨_, Nat.zero_le _, rfl, F1, wipeE E1 vs, [], [], (st1.temp hD _).wiped vs, rfl, Same.refl _, postN.mono s1 (by simpa using q)⟩, ?_⟩
    rintro i m H2 ⟨hi, rfl, F2, E2, acc, xs, st2, ra, s2, q2⟩
    by_cases hlt : i < ds.length
    · refine .inr ⟨w.goes i H2 F2 s2 st2.sf hlt, fun H' => i + 1 ≤ ds.length ∧ ∃ F2 E2 acc xs, StOk g ρ (upd G D (.lst xs)) E2 F2 (wipe σ vs) H' ∧ RepL g F2 acc xs ∧ Same F1 F2 ∧
        postN g W ρ G F2 σ Q ((lcL b tf f vs (ds.drop (i + 1)) acc E2).bind fun xs E2 => .val (.lst xs) (restoreE E1 E2 vs)), fun H' ⟨a, r⟩ => ⟨ds.length - (i + 1), by omega, a, rfl, r⟩, fun x H3 y => ?_⟩
      obtain ⟨d, F3, hd, gr, r⟩ := w.yields i H2 F2 x H3 s2 st2.sf hlt y
      have hdrop : ds.drop i = d :: ds.drop (i + 1) := by
        rw [List.drop_eq_getElem_cons hlt]
        rw [List.getElem?_eq_getElem hlt] at hd
        rw [Option.some.inj hd]
      rw [hdrop] at q2
      unfold lcL at q2
      cases z : b d E2 with
      | none => simp only [z] at q2; exact q2.elim
      | some E3 =>
        simp only [z] at q2
        refine ⟨ρ, _, E2, F3, d, gr.2 _ _ _ _ st2, r, E3, z, fun σ4 F4 H4 st4 s4 w4 => ⟨w4.trans wipe_wipe, ?_⟩⟩
        rw [wipe_wipe] at w4
        have s14 : Same F2 F4 := gr.1.trans s4
        refine noxE (P := fun r : R (List FL.D) => postN g W ρ G F2 σ Q (r.bind fun xs E2 => .val (.lst xs) (restoreE E1 E2 vs))) q2 (fun h => h) st4 fun k E5 c F5 H5 st5 s5 r5 q5 => ?_
        obtain rfl : k = c := r5
        cases k with
        | false =>
          rw [if_neg Bool.false_ne_true] at q5 ⊢
          exact ⟨hlt, F5, _, acc, xs, st5.wiped2 vs w4, ra.mono (s14.trans s5), (s2.trans s14).trans s5, postN.mono (s14.trans s5) q5⟩
        | true =>
          rw [if_pos rfl] at q5 ⊢
          refine noxE (P := fun r : R (List FL.D) => postN g W ρ G F2 σ Q (r.bind fun xs E2 => .val (.lst xs) (restoreE E1 E2 vs))) q5 (fun h => h) st5 fun y E6 v F6 H6 st6 s6 r6 q6 => ?_
          by_cases hz : acc.length < sizeLine
          · rw [if_pos hz] at q6
            have s16 := (s14.trans s5).trans s6
            have hD6 : H6 D = some (.lst xs) := st6.sg _ _ upd_same
            refine ⟨xs, hD6, by rw [← ra.length]; exact hz, hlt, F6, _, acc ++ [y], xs ++ [v], (st6.rewrite gD).wiped2 vs w4, (ra.mono s16).append ⟨v, [], rfl, r6, rfl⟩, s2.trans s16, postN.mono s16 q6⟩
          · rw [if_neg hz] at q6
            exact q6.elim
    · have e : i = ds.length := by omega
      subst e
      rw [List.drop_length] at q2
      have q2 : postN g W ρ G F2 σ Q (.val (.lst acc) (restoreE E1 E2 vs)) := q2
      refine .inl ⟨w.stops H2 F2 s2 st2.sf, ?_⟩
      exact q2 D (.lst xs) F2 H2 (st2.restored st1 s2) gD ⟨xs, rfl, ra⟩ (Same.refl _)
theorem fn_lc {fi : Nv → R (List D)} {b : Bd} {tf : Nv → R Bool} {f : Nv → R D} {vs : List Nat} (h : PE X e (tLc (tI g W fi) (tGv g vs b) (tG g W0 relB tf) (tG g W0 (relD g) f) vs)) : FN X g W e (fLc fi b tf f vs) := peImp h fun _ _ _ q => le_lc q
/-- x = [..] -/
theorem fs_setLc {i : Nat} {fi : Nv → R (List D)} {b : Bd} {tf : Nv → R Bool} {f : Nv → R D} {vs : List Nat} (h : PS X st (tAsg (tLc (tI g W fi) (tGv g vs b) (tG g W0 relB tf) (tG g W0 (relD g) f) vs) (gName i))) : FS X g W st (fSetN i (fLc fi b tf f vs)) :=
  fs_setN (psImp h fun D σ H q => le_lc q)
end
end FL

namespace FL
open PySem PySem.Spec PyProof.Rows L2

/-! ## defs -/
inductive FR where
  | val (d : D) (bs : List Sl) | new (d : D) (bs : List Sl) | exc (c : Nat) (fs : Option (Str × D)) (bs : List Sl) | bad
abbrev Fn := List Sl → FR
def spF (g : Gm) (n : Nat) (fn : Fn) : Sp := fun vs H Q X => vs.length = n ∧ ∃ ρ G as F, StOk g ρ G as F (vs.map some) H ∧ match fn as with
  | .val d bs => ∀ v F' H', StOk g ρ G bs F' (vs.map some) H' → Same F F' → Rep g F' d v → Q v H'
  | .new d bs => ∀ p o F' H', StOk g ρ (upd G p o) bs F' (vs.map some) H' → G p = none → OwnO g F' d o → Same F F' → Q (.ref p) H'
  | .exc c fs bs => ∀ dx F' H', StOk g ρ G bs F' (vs.map some) H' → Same F F' → XRep g F' fs dx → X (.ref (g.xcl c)) dx H'
  | .bad => False
/-- what comes back of the arguments: the lent ones -/
def backs : List Sl → Nv → Option (List Sl)
  | [], _ => some []
  | .bor k _ :: as, .bor k' d' :: E => if k = k' then (match backs as E with
    | some b => some (.bor k d' :: b)
    | none => none) else none
  | .bor _ _ :: _, _ => none
  | _ :: as, _ :: E => match backs as E with
    | some b => some (.no :: b)
    | none => none
  | _ :: _, [] => none
def runF (N : Nat) (s : Nv → R Fl) : Fn := fun as => match s (as ++ List.replicate (N - as.length) .no) with
  | .val .nx E => match backs as E with
    | some b => .val .non b
    | none => .bad
  | .val (.rt d) E => match backs as E with
    | some b => .val d b
    | none => .bad
  | .val (.rn d) E => match backs as E with
    | some b => .new d b
    | none => .bad
  | .exc c fs E => match backs as E with
    | some b => .exc c fs b
    | none => .bad
  | _ => .bad
theorem backs_get : ∀ {as : List Sl} {E : Nv} {b : List Sl}, backs as E = some b → b.length = as.length ∧ ∀ (i : Nat) s, b[i]? = some s → s = .no ∨ ∃ k d d0, s = .bor k d ∧ E[i]? = some (.bor k d) ∧ as[i]? = some (.bor k d0)
  | [], E, b, h => by cases h; exact ⟨rfl, fun i s e => by simp at e⟩
  | a :: as, [], b, h => by
    cases a <;> simp [backs] at h
  | a :: as, e :: E, b, h => by
    have rest : ∀ {b'}, backs as E = some b' → ∀ x, (x = .no ∨ ∃ k d d0, x = .bor k d ∧ e = .bor k d ∧ a = .bor k d0) → b = x :: b' → b.length = (a :: as).length ∧ ∀ (i : Nat) s, b[i]? = some s → s = .no ∨ ∃ k d d0, s = .bor k d ∧ (e :: E)[i]? = some (.bor k d) ∧ (a :: as)[i]? = some (.bor k d0) := by
      intro b' hb x hx e1
      obtain ⟨l, g⟩ := backs_get hb
      subst e1
      refine ⟨by simp [l], fun i s es => ?_⟩
      cases i with
      | zero =>
        simp at es
        subst es
        rcases hx with z | ⟨k, d, d0, z1, z2, z3⟩
        · exact .inl z
        · exact .inr ⟨k, d, d0, z1, by simp [z2], by simp [z3]⟩
      | succ i =>
        rcases g i s (by simpa using es) with z | ⟨k, d, d0, z1, z2, z3⟩
        · exact .inl z
        · exact .inr ⟨k, d, d0, z1, by simpa using z2, by simpa using z3⟩
    have plain : (match backs as E with | some b => some (Sl.no :: b) | none => none) = some b → b.length = (a :: as).length ∧ ∀ (i : Nat) s, b[i]? = some s → s = .no ∨ ∃ k d d0, s = .bor k d ∧ (e :: E)[i]? = some (.bor k d) ∧ (a :: as)[i]? = some (.bor k d0) := by
      intro h
      cases q : backs as E with
      | none => simp [q] at h
      | some b' =>
        simp only [q, Option.some.injEq] at h
        exact rest q .no (.inl rfl) h.symm
    cases a with
    | bor k d0 =>
      cases e with
      | bor k' d =>
        unfold backs at h
        by_cases hk : k = k'
        · subst hk
          rw [if_pos rfl] at h
          cases q : backs as E with
          | none => simp [q] at h
          | some b' =>
            simp only [q, Option.some.injEq] at h
            exact rest q (.bor k d) (.inr ⟨k, d, d0, rfl, rfl, rfl⟩) h.symm
        · rw [if_neg hk] at h; cases h
      | _ => cases h
    | no => exact plain h
    | fz _ => exact plain h
    | own _ => exact plain h
section
variable {g : Gm} {ρ : Nat → Addr} {G F H G' F' H' : Hp} {E E' : Nv} {σ σ' : L2.St} {as bs : List Sl} {p : Addr} {o : HO}
theorem StOk.backs (st0 : StOk g ρ G as F σ H) (st' : StOk g ρ G' E' F' σ' H') (hb : FL.backs as E' = some bs) : StOk g ρ G' bs F' σ H' := by
  obtain ⟨hl, hg⟩ := backs_get hb
  obtain ⟨ps0, a1, a2, a3⟩ := st0.ow
  obtain ⟨ps, h1, h2, h3⟩ := st'.ow
  have look : ∀ {i : Nat} {s : Sl} {d : D}, bs[i]? = some s → s.cell = some d → ∃ k d0, s = .bor k d ∧ E'[i]? = some (.bor k d) ∧ as[i]? = some (.bor k d0) := fun {i s d} e c => by
    rcases hg i s e with z | ⟨k, d', d0, z1, z2, z3⟩
    · rw [z] at c; cases c
    · rw [z1] at c; cases c; exact ⟨k, d0, z1, z2, z3⟩
  refine ⟨st'.sf, st'.sg, st'.dj, by rw [hl]; exact st0.len, fun i d e => ?_, ps, fun i s d e c => ?_, fun i k d e => ?_, fun i j s t d e e1 c1 e2 c2 q => ?_⟩
  · rcases hg i _ e with z | ⟨k, d', d0, z1, _⟩
    · cases z
    · cases z1
  · obtain ⟨k, d0, rfl, z2, z3⟩ := look e c
    have w := h1 i _ d z2 rfl
    refine ⟨?_, w.2⟩
    rw [(a1 i _ d0 z3 rfl).1, a2 i k d0 z3, h2 i k d z2]
  · obtain ⟨k', d0, z1, z2, z3⟩ := look (d := d) e rfl
    cases z1
    exact h2 i k d z2
  · obtain ⟨k, d0, rfl, z2, _⟩ := look e1 c1
    obtain ⟨k', d1, rfl, z3, _⟩ := look e2 c2
    exact h3 i j _ _ _ _ z2 rfl z3 rfl q
theorem StOk.extend (st : StOk g ρ G as F σ H) (n : Nat) : StOk g ρ G (as ++ List.replicate n .no) F (σ ++ List.replicate n none) H := st.reslot (by simp [st.len]) fun i s h => by
  by_cases hi : i < as.length
  · rw [List.getElem?_append_left hi] at h
    exact .inl ⟨h, List.getElem?_append_left (by rw [← st.len]; exact hi)⟩
  · rw [List.getElem?_append_right (by omega)] at h
    exact .inr (.inl (List.eq_of_mem_replicate (List.mem_of_getElem? h)))
end
section
variable {P : Program} {w : World} {K : PySem.W.Frag} {mg : Str → Option Value} {base : Heap} {g : Gm}
/-- THE RULE for a def -/
theorem fn_ok {x qual : Str} {st : Stmt} {f : Addr} {fd : FuncData} {N ps : List Str} {k : Nat} (F : Fun K x qual st f fd) (S : FnScope N ps (defScope st)) (s : Nv → R Fl) (n : Nat) (hn : n = ps.length) (M : Nat) (hM : M = N.length)
    (hbody : ∀ (cdv : Value) (A : Around) (outer : List Env) (sh : Shared) (H : Hp) (E : XK), Room k (A.deeper (envOfC qual (defScope st) sh.heap.objs.size f cdv)) →
      FSs (cxOf (L2.CX P w) P w K mg base N qual (defScope st) f cdv A outer sh H E) g (fun cls d _ H => E cls d H) (defBody st) s) : FnOk P w K mg base (L2.CX P w) (k + 1) f fd ps (spF g n (runF M s)) := by
  subst hn hM
  refine F.okX S (fun vs H Q E h => h.1) (fun cdv A outer sh H vs Q E hr h => ⟨_, hbody cdv A outer sh H E hr, ?_⟩)
  obtain ⟨hl, ρ, G, as, Fz, st, q⟩ := h
  have st1 := st.extend (N.length - as.length)
  have la : as.length = vs.length := by rw [st.len]; simp
  refine ⟨ρ, G, as ++ List.replicate (N.length - as.length) .no, Fz, by unfold L2.start; rw [← la]; exact st1, ?_⟩
  unfold runF at q
  revert q
  cases s (as ++ List.replicate (N.length - as.length) .no) with
  | bad => exact fun q => q
  | exc c fs E' =>
    cases z : backs as E' with
    | none => simp only [z]; exact fun q => q.elim
    | some b => simp only [z]; exact fun q dx σ' F' H' st' ss xr => q dx F' H' (st.backs st' z) ss xr
  | val fl E' =>
    cases fl with
    | bk => exact fun q => q.elim
    | ct => exact fun q => q.elim
    | nx =>
      cases z : backs as E' with
      | none => simp only [z]; exact fun q => q.elim
      | some b => simp only [z]; exact fun q σ' F' H' st' ss => q .non F' H' (st.backs st' z) ss rfl
    | rt d =>
      cases z : backs as E' with
      | none => simp only [z]; exact fun q => q.elim
      | some b => simp only [z]; exact fun q v σ' F' H' st' ss r => q v F' H' (st.backs st' z) ss r
    | rn d =>
      cases z : backs as E' with
      | none => simp only [z]; exact fun q => q.elim
      | some b => simp only [z]; exact fun q p o σ' F' H' st' gn ow ss => q p o F' H' (st.backs st' z) gn ow ss
end

/-! ## calls -/
def lend (E : Nv) : Nat → List Ar → Option (List Sl)
  | _, [] => some []
  | m, .v d :: r => match lend E (m + 1) r with
    | some as => some (.fz d :: as)
    | none => none
  | m, .pk j :: r => match E[j]?, lend E (m + 1) r with
    | some (.fz d), some as => some (.fz d :: as)
    | some (.own d), some as => some (.bor m d :: as)
    | some (.bor _ d), some as => some (.bor m d :: as)
    | _, _ => none
def unlend : List Ar → List Sl → Nv → Nv
  | .pk j :: r, .bor _ d :: bs, E => unlend r bs (match E[j]? with
    | some s => E.set j (s.put d)
    | none => E)
  | _ :: r, _ :: bs, E => unlend r bs E
  | _, _, E => E
/-- no slot is lent twice -/
def once : List Ar → Bool
  | [] => true
  | .pk j :: r => !(r.any fun a => match a with
    | .pk i => i == j
    | _ => false) && once r
  | _ :: r => once r
/-- all that was lent comes back -/
def shape : List Sl → List Sl → Bool
  | [], [] => true
  | .bor _ _ :: a, .bor _ _ :: b => shape a b
  | .bor _ _ :: _, _ => false
  | _ :: a, _ :: b => shape a b
  | _, _ => false
theorem lend_get {E : Nv} : ∀ {ars : List Ar} {m : Nat} {as : List Sl}, lend E m ars = some as → as.length = ars.length ∧ ∀ (i : Nat) a, ars[i]? = some a → match a with
    | .v d => as[i]? = some (.fz d)
    | .pk j => (∃ d, E[j]? = some (.fz d) ∧ as[i]? = some (.fz d)) ∨ ∃ s d, E[j]? = some s ∧ s.cell = some d ∧ as[i]? = some (.bor (m + i) d)
  | [], m, as, h => by cases h; exact ⟨rfl, fun i a e => by simp at e⟩
  | a :: r, m, as, h => by
    have rest : ∀ {as'} {x : Sl}, lend E (m + 1) r = some as' → as = x :: as' → (match a with
        | .v d => x = .fz d
        | .pk j => (∃ d, E[j]? = some (.fz d) ∧ x = .fz d) ∨ ∃ s d, E[j]? = some s ∧ s.cell = some d ∧ x = .bor m d) → as.length = (a :: r).length ∧ ∀ (i : Nat) b, (a :: r)[i]? = some b → match b with
        | .v d => as[i]? = some (.fz d)
        | .pk j => (∃ d, E[j]? = some (.fz d) ∧ as[i]? = some (.fz d)) ∨ ∃ s d, E[j]? = some s ∧ s.cell = some d ∧ as[i]? = some (.bor (m + i) d) := by
      intro as' x hr e hx
      obtain ⟨l, g⟩ := lend_get hr
      subst e
      refine ⟨by simp [l], fun i b hb => ?_⟩
      cases i with
      | zero =>
        simp at hb
        subst hb
        cases a with
        | v d => simp only at hx ⊢; simp [hx]
        | pk j =>
          simp only at hx ⊢
          rcases hx with ⟨d, z1, z2⟩ | ⟨s, d, z1, z2, z3⟩
          · exact .inl ⟨d, z1, by simp [z2]⟩
          · exact .inr ⟨s, d, z1, z2, by simp [z3]⟩
      | succ i =>
        have := g i b (by simpa using hb)
        cases b with
        | v d => simpa using this
        | pk j =>
          simp only at this ⊢
          rcases this with ⟨d, z1, z2⟩ | ⟨s, d, z1, z2, z3⟩
          · exact .inl ⟨d, z1, by simpa using z2⟩
          · exact .inr ⟨s, d, z1, z2, by rw [show m + (i + 1) = m + 1 + i by omega]; simpa using z3⟩
    cases a with
    | v d =>
      unfold lend at h
      cases q : lend E (m + 1) r with
      | none => simp [q] at h
      | some as' =>
        simp only [q, Option.some.injEq] at h
        exact rest q h.symm rfl
    | pk j =>
      unfold lend at h
      cases q : lend E (m + 1) r with
      | none =>
        cases z : E[j]? with
        | none => simp [q, z] at h
        | some s => cases s <;> simp [q, z] at h
      | some as' =>
        cases z : E[j]? with
        | none => simp [q, z] at h
        | some s =>
          cases s with
          | no => simp [q, z] at h
          | fz d => simp only [q, z, Option.some.injEq] at h; exact rest q h.symm (.inl ⟨d, z, rfl⟩)
          | own d => simp only [q, z, Option.some.injEq] at h; exact rest q h.symm (.inr ⟨_, d, z, rfl, rfl⟩)
          | bor k d => simp only [q, z, Option.some.injEq] at h; exact rest q h.symm (.inr ⟨_, d, z, rfl, rfl⟩)
theorem put_put {s : Sl} {d e : D} : (s.put d).put e = s.put e := by cases s <;> rfl
theorem put_cell {s : Sl} {d e : D} (h : s.cell = some e) : (s.put d).cell = some d := by cases s <;> first | rfl | cases h
theorem put_cell' {s : Sl} {d e : D} (h : (s.put d).cell = some e) : e = d ∧ ∃ x, s.cell = some x := by
  cases s with
  | no => cases h
  | fz _ => cases h
  | own x => cases h; exact ⟨rfl, x, rfl⟩
  | bor k x => cases h; exact ⟨rfl, x, rfl⟩
theorem put_fz {s : Sl} {d e : D} (h : s.put d = .fz e) : s = .fz e := by cases s <;> first | exact h | cases h
theorem put_bor {s : Sl} {d e : D} {k : Nat} (h : s.put d = .bor k e) : e = d ∧ ∃ x, s = .bor k x := by
  cases s with
  | bor k' x => cases h; exact ⟨rfl, x, rfl⟩
  | _ => cases h
theorem unlend_get : ∀ {ars : List Ar} {bs : List Sl} {E : Nv} {j : Nat} {s : Sl}, (unlend ars bs E)[j]? = some s →
    ∃ s0, E[j]? = some s0 ∧ ((s = s0 ∧ ∀ (m k : Nat) d, ars[m]? = some (.pk j) → bs[m]? ≠ some (.bor k d)) ∨ ∃ (m k : Nat) (d : D), ars[m]? = some (.pk j) ∧ bs[m]? = some (.bor k d) ∧ s = s0.put d)
  | [], bs, E, j, s, h => ⟨s, by simpa [unlend] using h, .inl ⟨rfl, fun m k d e => by simp at e⟩⟩
  | a :: r, [], E, j, s, h => ⟨s, by cases a <;> simpa [unlend] using h, .inl ⟨rfl, fun m k d e => by simp⟩⟩
  | a :: r, b :: bs, E, j, s, h => by
    have skip : (∀ i k d, a = .pk i → b ≠ .bor k d) → (unlend r bs E)[j]? = some s → ∃ s0, E[j]? = some s0 ∧ ((s = s0 ∧ ∀ (m k : Nat) d, (a :: r)[m]? = some (.pk j) → (b :: bs)[m]? ≠ some (.bor k d)) ∨ ∃ (m k : Nat) (d : D), (a :: r)[m]? = some (.pk j) ∧ (b :: bs)[m]? = some (.bor k d) ∧ s = s0.put d) := by
      intro hab h
      obtain ⟨s0, e0, c⟩ := unlend_get h
      refine ⟨s0, e0, ?_⟩
      rcases c with ⟨e1, n⟩ | ⟨m, k, d, e1, e2, e3⟩
      · refine .inl ⟨e1, fun m k d e => ?_⟩
        cases m with
        | zero =>
          simp at e
          intro e'
          simp at e'
          exact hab j k d e e'
        | succ m => simpa using n m k d (by simpa using e)
      · exact .inr ⟨m + 1, k, d, by simpa using e1, by simpa using e2, e3⟩
    cases a with
    | v d0 => exact skip (fun _ _ _ e => nomatch e) (by cases b <;> simpa [unlend] using h)
    | pk i =>
      cases b with
      | bor k0 d0 =>
        unfold unlend at h
        obtain ⟨s0, e0, c⟩ := unlend_get h
        by_cases hij : i = j
        · subst hij
          cases z : E[i]? with
          | none => rw [z] at e0; simp only at e0; rw [z] at e0; cases e0
          | some t =>
            rw [z] at e0
            simp only at e0
            rw [List.getElem?_set_self (List.getElem?_eq_some_iff.mp z).1] at e0
            cases e0
            refine ⟨t, rfl, .inr ?_⟩
            rcases c with ⟨e1, n⟩ | ⟨m, k, d, e1, e2, e3⟩
            · exact ⟨0, k0, d0, rfl, rfl, e1⟩
            · exact ⟨m + 1, k, d, by simpa using e1, by simpa using e2, by rw [e3, put_put]⟩
        · have e0' : E[j]? = some s0 := by
            cases z : E[i]? with
            | none => rw [z] at e0; exact e0
            | some t => rw [z] at e0; simp only at e0; rw [List.getElem?_set_ne hij] at e0; exact e0
          refine ⟨s0, e0', ?_⟩
          rcases c with ⟨e1, n⟩ | ⟨m, k, d, e1, e2, e3⟩
          · refine .inl ⟨e1, fun m k d e => ?_⟩
            cases m with
            | zero => simp at e; exact absurd e hij
            | succ m => simpa using n m k d (by simpa using e)
          · exact .inr ⟨m + 1, k, d, by simpa using e1, by simpa using e2, e3⟩
      | no => exact skip (fun _ _ _ _ e => nomatch e) (by simpa [unlend] using h)
      | fz _ => exact skip (fun _ _ _ _ e => nomatch e) (by simpa [unlend] using h)
      | own _ => exact skip (fun _ _ _ _ e => nomatch e) (by simpa [unlend] using h)
theorem unlend_length : ∀ (ars : List Ar) (bs : List Sl) (E : Nv), (unlend ars bs E).length = E.length
  | [], _, _ => rfl
  | a :: r, [], E => by cases a <;> simp [unlend]
  | a :: r, b :: bs, E => by
    cases a with
    | v d => cases b <;> simpa [unlend] using unlend_length r bs E
    | pk i =>
      cases b with
      | bor k d =>
        unfold unlend
        rw [unlend_length]
        cases E[i]? <;> simp
      | _ => simpa [unlend] using unlend_length r bs E
theorem once_inj : ∀ {ars : List Ar}, once ars = true → ∀ (i i' j : Nat), ars[i]? = some (.pk j) → ars[i']? = some (.pk j) → i = i'
  | [], _, i, i', j, h, _ => by simp at h
  | a :: r, h, i, i', j, h1, h2 => by
    have hr : once r = true := by
      cases a with
      | v d => exact h
      | pk k => unfold once at h; rw [Bool.and_eq_true] at h; exact h.2
    have no : ∀ k m : Nat, a = .pk k → r[m]? ≠ some (.pk k) := by
      intro k m e e2
      subst e
      unfold once at h
      rw [Bool.and_eq_true, Bool.not_eq_true'] at h
      have := List.any_eq_false.mp h.1 _ (List.mem_of_getElem? e2)
      simp at this
    cases i with
    | zero =>
      cases i' with
      | zero => rfl
      | succ m => simp at h1 h2; exact absurd h2 (no j m h1)
    | succ n =>
      cases i' with
      | zero => simp at h1 h2; exact absurd h1 (no j n h2)
      | succ m => simp at h1 h2; rw [once_inj hr n m j h1 h2]
theorem shape_get : ∀ {as bs : List Sl}, shape as bs = true → ∀ (m k : Nat) d, as[m]? = some (.bor k d) → ∃ k' d', bs[m]? = some (.bor k' d')
  | [], _, _, m, k, d, h => by simp at h
  | a :: as, [], h, _, _, _, _ => by cases a <;> simp [shape] at h
  | a :: as, b :: bs, h, m, k, d, e => by
    have hr : shape as bs = true ∧ (∀ k d, a = .bor k d → ∃ k' d', b = .bor k' d') := by
      cases a with
      | bor k0 d0 =>
        cases b with
        | bor k1 d1 => exact ⟨h, fun _ _ _ => ⟨k1, d1, rfl⟩⟩
        | _ => cases h
      | _ => exact ⟨h, fun _ _ e => nomatch e⟩
    cases m with
    | zero =>
      simp at e
      obtain ⟨k', d', z⟩ := hr.2 k d e
      exact ⟨k', d', by simp [z]⟩
    | succ m =>
      obtain ⟨k', d', z⟩ := shape_get hr.1 m k d (by simpa using e)
      exact ⟨k', d', by simpa using z⟩
theorem ArsOk.get {g : Gm} {F : Hp} {σ : L2.St} : ∀ {ars : List Ar} {vs : List V} {i : Nat} {a : Ar}, ArsOk g F σ ars vs → ars[i]? = some a → ∃ v, vs[i]? = some v ∧ ArOk g F σ a v
  | [], _, _, _, _, h => by simp at h
  | b :: r, _, 0, a, ⟨x, xs, e, q, t⟩, h => by subst e; simp at h; subst h; exact ⟨x, rfl, q⟩
  | b :: r, _, i + 1, a, ⟨x, xs, e, q, t⟩, h => by
    subst e
    obtain ⟨v, z1, z2⟩ := ArsOk.get (i := i) t (by simpa using h)
    exact ⟨v, by simpa using z1, z2⟩
section
variable {g : Gm} {ρ : Nat → Addr} {G F H : Hp} {E : Nv} {σ : L2.St} {ars : List Ar} {as : List Sl} {vs : List V}
/-- the callee's view, and the way back -/
theorem lent (st : StOk g ρ G E F σ H) (ra : ArsOk g F σ ars vs) (hl : lend E 0 ars = some as) (ho : once ars = true) :
    ∃ (ρ' : Nat → Addr) (G' : Hp), StOk g ρ' G' as F (vs.map some) H ∧
      (∀ bs F' H', shape as bs = true → StOk g ρ' G' bs F' (vs.map some) H' → Same F F' → StOk g ρ G (unlend ars bs E) F' σ H') ∧
      (∀ bs F' H' p o, shape as bs = true → StOk g ρ' (upd G' p o) bs F' (vs.map some) H' → G' p = none → Same F F' → G p = none ∧ StOk g ρ (upd G p o) (unlend ars bs E) F' σ H') := by
  obtain ⟨ps, h1, h2, h3⟩ := st.ow
  obtain ⟨ll, lg⟩ := lend_get hl
  have lv : as.length = vs.length := by rw [ll, ra.length]
  haveI : ∀ q, Decidable (∃ (j : Nat) (s : Sl) (d : D), E[j]? = some s ∧ s.cell = some d ∧ ps j = q ∧ ∀ i : Nat, ars[i]? ≠ some (.pk j)) := fun q => Classical.propDecidable _
  let G' : Hp := fun q => if (∃ (j : Nat) (s : Sl) (d : D), E[j]? = some s ∧ s.cell = some d ∧ ps j = q ∧ ∀ i : Nat, ars[i]? ≠ some (.pk j)) then H q else G q
  have g'own : ∀ {j : Nat} {s : Sl} {d : D}, E[j]? = some s → s.cell = some d → (∀ i : Nat, ars[i]? ≠ some (.pk j)) → G' (ps j) = H (ps j) := fun {j s d} e c n => if_pos ⟨j, s, d, e, c, rfl, n⟩
  have g'lent : ∀ {j : Nat} {s : Sl} {d : D} {i : Nat}, E[j]? = some s → s.cell = some d → ars[i]? = some (.pk j) → G' (ps j) = none := fun {j s d i} e c hi => by
    have : G' (ps j) = G (ps j) := if_neg (fun ⟨j', s', d', e', c', q', n'⟩ => by
      have := h3 j' j s' s d' d e' c' e c q'
      subst this
      exact n' i hi)
    rw [this]
    exact (h1 j s d e c).2.2.1
  have g'G : ∀ {q : Addr} {o : HO}, G q = some o → G' q = some o := fun {q o} e => by
    have : G' q = G q := if_neg (fun ⟨j', s', d', e', c', q', n'⟩ => by
      have := (h1 j' s' d' e' c').2.2.1
      rw [q', e] at this
      cases this)
    rw [this]; exact e
  have g'cases : ∀ {q : Addr} {o : HO}, G' q = some o → H q = some o ∧ F q = none := fun {q o} e => by
    by_cases hq : ∃ (j : Nat) (s : Sl) (d : D), E[j]? = some s ∧ s.cell = some d ∧ ps j = q ∧ ∀ i : Nat, ars[i]? ≠ some (.pk j)
    · have e' : H q = some o := (if_pos hq).symm.trans e
      obtain ⟨j, s, d, e1, c1, q1, _⟩ := hq
      exact ⟨e', by rw [← q1]; exact (h1 j s d e1 c1).2.1⟩
    · have e' : G q = some o := (if_neg hq).symm.trans e
      exact ⟨st.sg _ _ e', st.dj _ _ e'⟩
  have vget : ∀ {i j : Nat} {s : Sl} {d : D}, ars[i]? = some (.pk j) → E[j]? = some s → s.cell = some d → (vs.map some)[i]? = some (some (.ref (ps j))) := fun {i j s d} ha e c => by
    obtain ⟨v, z1, z2⟩ := ra.get ha
    have z2 : σ[j]? = some (some v) := z2
    rw [(h1 j s d e c).1] at z2
    have : V.ref (ps j) = v := Option.some.inj (Option.some.inj z2)
    rw [List.getElem?_map, z1, ← this]
    rfl
  -- the callee's slots
  have argof : ∀ {i : Nat} {s : Sl}, as[i]? = some s → ∃ a, ars[i]? = some a := fun {i s} e => by
    have hi : i < ars.length := by rw [← ll]; exact (List.getElem?_eq_some_iff.mp e).1
    exact ⟨_, List.getElem?_eq_getElem hi⟩
  have look : ∀ {i : Nat} {s : Sl} {d : D}, as[i]? = some s → s.cell = some d → ∃ j t, ars[i]? = some (.pk j) ∧ E[j]? = some t ∧ t.cell = some d ∧ s = .bor i d := fun {i s d} e c => by
    obtain ⟨a, ha⟩ := argof e
    have z := lg i a ha
    cases a with
    | v x => simp only at z; rw [e] at z; cases z; cases c
    | pk j =>
      simp only at z
      rcases z with ⟨x, _, z⟩ | ⟨t, x, z1, z2, z3⟩
      · rw [e] at z; cases z; cases c
      · rw [e] at z3
        have := Option.some.inj z3
        subst this
        cases c
        exact ⟨j, t, ha, z1, z2, by rw [Nat.zero_add]⟩
  let jx : Nat → Nat := fun i => match ars[i]? with
    | some (.pk j) => j
    | _ => 0
  have jxe : ∀ {i j : Nat}, ars[i]? = some (.pk j) → jx i = j := fun {i j} e => by
    show (match ars[i]? with | some (.pk j) => j | _ => 0) = j
    rw [e]
  have callee : StOk g (fun i => ps (jx i)) G' as F (vs.map some) H := by
    refine ⟨st.sf, fun q o e => (g'cases e).1, fun q o e => (g'cases e).2, by simpa using lv, fun i d e => ?_, fun i => ps (jx i), fun i s d e c => ?_, fun i k d e => ?_, fun i i' s t d e e1 c1 e2 c2 q => ?_⟩
    · obtain ⟨a, ha⟩ := argof e
      obtain ⟨v, z1, z2⟩ := ra.get ha
      have z := lg i a ha
      cases a with
      | v x =>
        simp only at z
        rw [e] at z; cases z
        exact ⟨v, by rw [List.getElem?_map, z1]; rfl, z2⟩
      | pk j =>
        simp only at z
        rcases z with ⟨x, z3, z4⟩ | ⟨t, x, _, _, z4⟩
        · rw [e] at z4; cases z4
          have z2 : σ[j]? = some (some v) := z2
          obtain ⟨u, y1, y2⟩ := st.fz j d z3
          rw [z2] at y1; cases y1
          exact ⟨v, by rw [List.getElem?_map, z1]; rfl, y2⟩
        · rw [e] at z4; cases z4
    · obtain ⟨j, t, ha, e1, c1, rfl⟩ := look e c
      obtain ⟨w1, w2, w3, w4⟩ := h1 j t d e1 c1
      show (List.map some vs)[i]? = some (some (V.ref (ps (jx i)))) ∧ OwnAt g G' F H (ps (jx i)) d
      rw [jxe ha]
      exact ⟨vget ha e1 c1, w2, g'lent e1 c1 ha, w4⟩
    · obtain ⟨j, t, ha, e1, c1, z⟩ := look (d := d) e rfl
      cases z
      rfl
    · obtain ⟨j, u, ha, y1, y2, _⟩ := look e1 c1
      obtain ⟨j', u', ha', y1', y2', _⟩ := look e2 c2
      simp only [jxe ha, jxe ha'] at q
      have := h3 j j' u u' _ _ y1 y2 y1' y2' q
      subst this
      exact once_inj ho i i' j ha ha'
  -- an owned slot's object behind the call
  have after : ∀ (Gc : Hp) (bs : List Sl) (F' H' : Hp), (∀ q o, G' q = some o → Gc q = some o) → shape as bs = true → StOk g (fun i => ps (jx i)) Gc bs F' (vs.map some) H' → Same F F' → ∀ (j : Nat) s d, (unlend ars bs E)[j]? = some s → s.cell = some d →
      (∃ s0 d0, E[j]? = some s0 ∧ s0.cell = some d0 ∧ (∀ k, s = .bor k d → ∃ x, s0 = .bor k x)) ∧ F' (ps j) = none ∧ (∃ o, H' (ps j) = some o ∧ OwnO g F' d o) ∧ ((∃ o, G' (ps j) = some o) ∨ Gc (ps j) = none) := by
    intro Gc bs F' H' hG sh st' ss j s d e c
    obtain ⟨s0, e0, k⟩ := unlend_get e
    rcases k with ⟨rfl, n⟩ | ⟨m, k, x, y1, y2, rfl⟩
    · have notlent : ∀ i : Nat, ars[i]? ≠ some (.pk j) := fun i hi => by
        have z := lg i _ hi
        simp only at z
        rcases z with ⟨x, z1, _⟩ | ⟨t, x, z1, z2, z3⟩
        · rw [e0] at z1; cases z1; cases c
        · obtain ⟨k', d', z4⟩ := shape_get sh i _ _ z3
          exact n i k' d' hi z4
      obtain ⟨w1, w2, w3, o, w4, w5⟩ := h1 j s d e0 c
      have gj := g'own e0 c notlent
      rw [w4] at gj
      exact ⟨⟨s, d, e0, c, fun k z => ⟨d, z⟩⟩, st'.dj _ _ (hG _ _ gj), ⟨o, st'.sg _ _ (hG _ _ gj), w5.mono ss⟩, .inl ⟨o, gj⟩⟩
    · obtain ⟨rfl, x0, c0⟩ := put_cell' c
      obtain ⟨p, z1, z2, z3, z4⟩ := st'.at y2 rfl
      rw [vget y1 e0 c0] at z1
      have : ps j = p := by injection (Option.some.inj (Option.some.inj z1))
      subst this
      exact ⟨⟨s0, x0, e0, c0, fun k' z => (put_bor z).2⟩, z2, z4, .inr z3⟩
  have fzs : ∀ (bs : List Sl) (F' : Hp), Same F F' → ∀ (j : Nat) d, (unlend ars bs E)[j]? = some (.fz d) → ∃ v, σ[j]? = some (some v) ∧ Rep g F' d v := by
    intro bs F' ss j d e
    obtain ⟨s0, e0, k⟩ := unlend_get e
    have : s0 = .fz d := by
      rcases k with ⟨z, _⟩ | ⟨_, _, x, _, _, z⟩
      · exact z.symm
      · exact put_fz z.symm
    subst this
    obtain ⟨v, a, b⟩ := st.fz j d e0
    exact ⟨v, a, b.mono ss⟩
  refine ⟨fun i => ps (jx i), G', callee, fun bs F' H' sh st' ss => ?_, fun bs F' H' p o sh st' gp ss => ?_⟩
  · have af := after G' bs F' H' (fun _ _ z => z) sh st' ss
    refine ⟨st'.sf, fun q o e => st'.sg _ _ (g'G e), fun q o e => st'.dj _ _ (g'G e), by rw [unlend_length]; exact st.len, fzs bs F' ss, ps, fun j s d e c => ?_, fun j k d e => ?_, fun j j' s t d e e1 c1 e2 c2 q => ?_⟩
    · obtain ⟨⟨s0, d0, e0, c0, _⟩, f, own, _⟩ := af j s d e c
      exact ⟨(h1 j s0 d0 e0 c0).1, f, (h1 j s0 d0 e0 c0).2.2.1, own⟩
    · obtain ⟨⟨s0, d0, e0, c0, b⟩, _⟩ := af j _ d e rfl
      obtain ⟨x, rfl⟩ := b k rfl
      exact h2 j k x e0
    · obtain ⟨⟨s0, d0, e0, c0, _⟩, _⟩ := af j s d e1 c1
      obtain ⟨⟨t0, f0, e0', c0', _⟩, _⟩ := af j' t e e2 c2
      exact h3 j j' s0 t0 d0 f0 e0 c0 e0' c0' q
  · have gpn : G p = none := by
      cases z : G p with
      | none => rfl
      | some u => rw [g'G z] at gp; cases gp
    have hG : ∀ q o', G' q = some o' → (upd G' p o) q = some o' := fun q o' z => by rw [upd_ne (ne_of_none z gp)]; exact z
    have af := after (upd G' p o) bs F' H' hG sh st' ss
    have up : ∀ {q : Addr} {o' : HO}, (upd G p o) q = some o' → (upd G' p o) q = some o' := fun {q o'} e => by
      by_cases hq : q = p
      · subst hq; rw [upd_same] at e ⊢; exact e
      · rw [upd_ne hq] at e ⊢; exact g'G e
    refine ⟨gpn, st'.sf, fun q o e => st'.sg _ _ (up e), fun q o e => st'.dj _ _ (up e), by rw [unlend_length]; exact st.len, fzs bs F' ss, ps, fun j s d e c => ?_, fun j k d e => ?_, fun j j' s t d e e1 c1 e2 c2 q => ?_⟩
    · obtain ⟨⟨s0, d0, e0, c0, _⟩, f, own, alt⟩ := af j s d e c
      have ne : ps j ≠ p := by
        rcases alt with ⟨o', z⟩ | z
        · exact ne_of_none z gp
        · intro q; rw [q, upd_same] at z; cases z
      exact ⟨(h1 j s0 d0 e0 c0).1, f, by rw [upd_ne ne]; exact (h1 j s0 d0 e0 c0).2.2.1, own⟩
    · obtain ⟨⟨s0, d0, e0, c0, b⟩, _⟩ := af j _ d e rfl
      obtain ⟨x, rfl⟩ := b k rfl
      exact h2 j k x e0
    · obtain ⟨⟨s0, d0, e0, c0, _⟩, _⟩ := af j s d e1 c1
      obtain ⟨⟨t0, f0, e0', c0', _⟩, _⟩ := af j' t e e2 c2
      exact h3 j j' s0 t0 d0 f0 e0 c0 e0' c0' q
end
/-- a call's outcome -/
def resC (fn : Fn) (ars : List Ar) (E : Nv) : R D := match lend E 0 ars with
  | none => .bad
  | some as => if once ars = true then (match fn as with
    | .val d bs => if shape as bs = true then .val d (unlend ars bs E) else .bad
    | .exc c fs bs => if shape as bs = true then .exc c fs (unlend ars bs E) else .bad
    | _ => .bad) else .bad
def resCN (fn : Fn) (ars : List Ar) (E : Nv) : R D := match lend E 0 ars with
  | none => .bad
  | some as => if once ars = true then (match fn as with
    | .new d bs => if shape as bs = true then .val d (unlend ars bs E) else .bad
    | .exc c fs bs => if shape as bs = true then .exc c fs (unlend ars bs E) else .bad
    | _ => .bad) else .bad
def fCall (fn : Fn) (fs : Nv → R (List Ar)) : Nv → R D := fun E => (fs E).bind fun as E1 => resC fn as E1
def fCallN (fn : Fn) (fs : Nv → R (List Ar)) : Nv → R D := fun E => (fs E).bind fun as E1 => resCN fn as E1
section
variable {X : Cx} {g : Gm} {W : WX} {e : Expr} {n : Nat} {fn : Fn} {fs : Nv → R (List Ar)}
theorem resC_ok {ρ : Nat → Addr} {G F H : Hp} {E : Nv} {σ : L2.St} {ars : List Ar} {vs : List V} {Q : VK} (st : StOk g ρ G E F σ H) (ra : ArsOk g F σ ars vs) (hn : vs.length = n) (q : post g W (relD g) ρ G F σ Q (resC fn ars E)) : spF g n fn vs H Q (WE W σ) := by
  unfold resC at q
  cases z : lend E 0 ars with
  | none => simp only [z] at q; exact q.elim
  | some as =>
    simp only [z] at q
    by_cases ho : once ars = true
    · rw [if_pos ho] at q
      obtain ⟨ρ', G', st', back, _⟩ := lent st ra z ho
      refine ⟨hn, ρ', G', as, F, st', ?_⟩
      revert q
      cases fn as with
      | bad => exact fun q => q
      | new d bs => exact fun q => q.elim
      | val d bs =>
        simp only
        by_cases hs : shape as bs = true
        · rw [if_pos hs]; exact fun q v F' H' st2 ss r => q v F' H' (back bs F' H' hs st2 ss) ss r
        · rw [if_neg hs]; exact fun q => q.elim
      | exc c fs bs =>
        simp only
        by_cases hs : shape as bs = true
        · rw [if_pos hs]; exact fun q dx F' H' st2 ss r => q dx F' H' (back bs F' H' hs st2 ss) ss r
        · rw [if_neg hs]; exact fun q => q.elim
    · rw [if_neg ho] at q; exact q.elim
theorem resCN_ok {ρ : Nat → Addr} {G F H : Hp} {E : Nv} {σ : L2.St} {ars : List Ar} {vs : List V} {Q : VK} (st : StOk g ρ G E F σ H) (ra : ArsOk g F σ ars vs) (hn : vs.length = n) (q : postN g W ρ G F σ Q (resCN fn ars E)) : spF g n fn vs H Q (WE W σ) := by
  unfold resCN at q
  cases z : lend E 0 ars with
  | none => simp only [z] at q; exact q.elim
  | some as =>
    simp only [z] at q
    by_cases ho : once ars = true
    · rw [if_pos ho] at q
      obtain ⟨ρ', G', st', back, back2⟩ := lent st ra z ho
      refine ⟨hn, ρ', G', as, F, st', ?_⟩
      revert q
      cases fn as with
      | bad => exact fun q => q
      | val d bs => exact fun q => q.elim
      | new d bs =>
        simp only
        by_cases hs : shape as bs = true
        · rw [if_pos hs]
          intro q p o F' H' st2 gp ow ss
          obtain ⟨gn, st3⟩ := back2 bs F' H' p o hs st2 gp ss
          exact q p o F' H' st3 gn ow ss
        · rw [if_neg hs]; exact fun q => q.elim
      | exc c fs bs =>
        simp only
        by_cases hs : shape as bs = true
        · rw [if_pos hs]; exact fun q dx F' H' st2 ss r => q dx F' H' (back bs F' H' hs st2 ss) ss r
        · rw [if_neg hs]; exact fun q => q.elim
    · rw [if_neg ho] at q; exact q.elim
end
/-- operand lists of n -/
def fAsN (n : Nat) (fs : Nv → R (List Ar)) : Nv → R (List Ar) := fs
section
variable {X : Cx} {g : Gm} {W : WX} {e : Expr} {n : Nat} {fn : Fn} {fs : List (Nv → R Ar)}
theorem fAs_len : ∀ {fs : List (Nv → R Ar)} {E E' : Nv} {as : List Ar}, fAs fs E = .val as E' → as.length = fs.length
  | [], _, _, _, h => by cases h; rfl
  | f :: fs, E, E', as, h => by
    unfold fAs at h
    cases z : f E with
    | val a E1 =>
      simp only [z, R.bind] at h
      cases z2 : fAs fs E1 with
      | val as' E2 => simp only [z2, R.bind_val] at h; cases h; simp [fAs_len z2]
      | exc _ _ _ => simp only [z2] at h; cases h
      | bad => simp only [z2] at h; cases h
    | exc _ _ _ => simp only [z] at h; cases h
    | bad => simp only [z] at h; cases h
theorem bindA {γ δ : Type} {rel2 : Hp → L2.St → γ → δ → Prop} {ρ : Nat → Addr} {G F H : Hp} {E : Nv} {σ : L2.St} {k : List Ar → Nv → R γ} {Q2 : δ → Hp → Prop} {Q1 : List V → Hp → Prop} (st : StOk g ρ G E F σ H) (h : post g W rel2 ρ G F σ Q2 ((fAs fs E).bind k))
    (cont : ∀ a E1 b F1 H1, a.length = fs.length → StOk g ρ G E1 F1 σ H1 → Same F F1 → ArsOk g F1 σ a b → post g W rel2 ρ G F1 σ Q2 (k a E1) → Q1 b H1) : tG g W (relAs g) (fAs fs) σ H Q1 := by
  refine ⟨ρ, G, E, F, st, ?_⟩
  revert h
  cases z : fAs fs E with
  | val a E1 => exact fun h b F' H' st' s r => cont a E1 b F' H' (fAs_len z) st' s r (post.mono (r := k a E1) s h)
  | exc c fs E' => exact fun h => h
  | bad => exact fun h => h
theorem bindAN {ρ : Nat → Addr} {G F H : Hp} {E : Nv} {σ : L2.St} {k : List Ar → Nv → R D} {Q2 : VK} {Q1 : List V → Hp → Prop} (st : StOk g ρ G E F σ H) (h : postN g W ρ G F σ Q2 ((fAs fs E).bind k))
    (cont : ∀ a E1 b F1 H1, a.length = fs.length → StOk g ρ G E1 F1 σ H1 → Same F F1 → ArsOk g F1 σ a b → postN g W ρ G F1 σ Q2 (k a E1) → Q1 b H1) : tG g W (relAs g) (fAs fs) σ H Q1 := by
  refine ⟨ρ, G, E, F, st, ?_⟩
  revert h
  cases z : fAs fs E with
  | val a E1 => exact fun h b F' H' st' s r => cont a E1 b F' H' (fAs_len z) st' s r (postN.mono (r := k a E1) s h)
  | exc c fs E' => exact fun h => h
  | bad => exact fun h => h
/-- f(..) -/
theorem fe_call (h : PE X e (tCallS (spF g n fn) (WE W) (tG g W (relAs g) (fAs fs)))) (hn : fs.length = n) : FE X g W e (fCall fn (fAs fs)) := peImp h fun σ H Q ⟨ρ, G, E, F, st, q⟩ =>
  bindA st q fun a E1 b F1 H1 la st1 s1 r1 q1 => resC_ok st1 r1 (by rw [← r1.length, la, hn]) q1
theorem fn_call (h : PE X e (tCallS (spF g n fn) (WE W) (tG g W (relAs g) (fAs fs)))) (hn : fs.length = n) : FN X g W e (fCallN fn (fAs fs)) := peImp h fun σ H Q ⟨ρ, G, E, F, st, q⟩ =>
  bindAN st q fun a E1 b F1 H1 la st1 s1 r1 q1 => resCN_ok st1 r1 (by rw [← r1.length, la, hn]) q1
end
end FL

namespace FL
open PySem PySem.Spec PyProof.Rows L2

/-! ## data as the library's data -/
mutual
def toPy : D → Option PyData
  | .non => some .none
  | .bl b => some (.bool b)
  | .int i => some (.int i)
  | .str s => some (.str s)
  | .tup ds => (toPyL ds).map .tuple
  | .lst ds => (toPyL ds).map .list
  | _ => none
def toPyL : List D → Option (List PyData)
  | [] => some []
  | d :: ds => (toPy d).bind fun p => (toPyL ds).map (p :: ·)
end
section
variable {g : Gm} {F H : Hp}
mutual
theorem dp_of (sf : Same F H) : ∀ {d : D} {v : V} {p : PyData}, Rep g F d v → toPy d = some p → Dp g.K H v p
  | .non, _, _, h, e => by cases (show _ = V.non from h); cases e; exact .non
  | .bl b, _, _, h, e => by cases (show _ = V.bl b from h); cases e; exact .bl b
  | .int b, _, _, h, e => by cases (show _ = V.int b from h); cases e; exact .int b
  | .str b, _, _, h, e => by cases (show _ = V.str b from h); cases e; exact .str b
  | .tup ds, _, _, h, e => by
    obtain ⟨a, xs, rfl, q, r⟩ := h
    have e : (toPyL ds).map PyData.tuple = some _ := e
    obtain ⟨ps, e1, rfl⟩ := Option.map_eq_some_iff.mp e
    exact .tup (same_t sf q) (dpl_of sf r e1)
  | .lst ds, _, _, h, e => by
    obtain ⟨a, xs, rfl, q, r⟩ := h
    have e : (toPyL ds).map PyData.list = some _ := e
    obtain ⟨ps, e1, rfl⟩ := Option.map_eq_some_iff.mp e
    exact .lst (.of (sf _ _ q)) (dpl_of sf r e1)
  | .ins _ _ _, _, _, _, e => nomatch e
  | .scr _, _, _, _, e => nomatch e
  | .ty _, _, _, _, e => nomatch e
  | .cls _, _, _, _, e => nomatch e
  | .raw _, _, _, _, e => nomatch e
  | .emp, _, _, _, e => nomatch e
  | .dk _ _, _, _, _, e => nomatch e
  | .dt _ _, _, _, _, e => nomatch e
theorem dpl_of (sf : Same F H) : ∀ {ds : List D} {vs : List V} {ps : List PyData}, RepL g F ds vs → toPyL ds = some ps → DpAll g.K H vs ps
  | [], _, _, h, e => by cases (show _ = [] from h); cases e; exact .nil
  | d :: ds, _, _, h, e => by
    obtain ⟨x, xs, rfl, r, t⟩ := h
    have e : (toPy d).bind (fun p => (toPyL ds).map (p :: ·)) = some _ := e
    obtain ⟨p, e1, e2⟩ := Option.bind_eq_some_iff.mp e
    obtain ⟨ps, e3, rfl⟩ := Option.map_eq_some_iff.mp e2
    exact .cons (dp_of sf r e1) (dpl_of sf t e3)
end
theorem dp_ofH (sf : Same F H) {d : D} {v : V} {p : PyData} (h : RepH g F H d v) (e : toPy d = some p) : Dp g.K H v p := by
  rcases h with h | ⟨q, o, rfl, hq, ow⟩
  · exact dp_of sf h e
  · cases d with
    | lst ds =>
      obtain ⟨xs, rfl, r⟩ := ow
      have e : (toPyL ds).map PyData.list = some _ := e
      obtain ⟨ps, e1, rfl⟩ := Option.map_eq_some_iff.mp e
      exact .lst (.of hq) (dpl_of sf r e1)
    | ins _ _ _ => cases e
    | dk _ _ => cases e
    | dt _ _ => cases e
    | _ => exact ow.elim
end
/-- equality of data, where the library's rule reaches -/
def dEq (d e : D) : Option Bool := match toPy d, toPy e with
  | some p, some q => if SeqAt.shaped p = true ∧ SeqAt.shaped q = true then some (PyData.eqv p q) else none
  | _, _ => none
def oEq (d e : D) : Option D := (dEq d e).map .bl
def oNe (d e : D) : Option D := (dEq d e).map fun b => .bl (!b)
def itemsOf : D → Option (List D)
  | .lst ds => some ds
  | .tup ds => some ds
  | .scr ns => some (ns.map .int)
  | _ => none
/-- d in e -/
def dIn (d : D) : D → Option Bool
  | .lst es => match toPy d, toPyL es with
    | some p, some qs => if SeqAt.shaped p = true ∧ SeqAt.shaped (.list qs) = true then some (qs.any fun z => PyData.eqv z p) else none
    | _, _ => none
  | .tup es => match toPy d, toPyL es with
    | some p, some qs => if SeqAt.shaped p = true ∧ SeqAt.shaped (.list qs) = true then some (qs.any fun z => PyData.eqv z p) else none
    | _, _ => none
  | .str y => match d with
    | .str x => some (!(Builtin.Str.occurrences y x 0 y.length 1).isEmpty)
    | _ => none
  | _ => none
def oIn (d e : D) : Option D := (dIn d e).map .bl
def oNotIn (d e : D) : Option D := (dIn d e).map fun b => .bl (!b)

/-! ## two-place operations -/
theorem iteSome {α : Type} {c : Prop} [Decidable c] {a z : α} (h : (if c then some a else none) = some z) : c ∧ a = z := by
  by_cases hc : c
  · rw [if_pos hc] at h; exact ⟨hc, Option.some.inj h⟩
  · rw [if_neg hc] at h; cases h
theorem iteSomeO {α : Type} {c : Prop} [Decidable c] {o : Option α} {z : α} (h : (if c then o else none) = some z) : c ∧ o = some z := by
  by_cases hc : c
  · rw [if_pos hc] at h; exact ⟨hc, h⟩
  · rw [if_neg hc] at h; cases h
def oAdd : D → D → Option D
  | .int i, .int j => some (.int (i + j))
  | .str a, .str b => if a.length + b.length ≤ sizeLine then some (.str (a ++ b)) else none
  | .tup a, .tup b => if a.length + b.length ≤ sizeLine then some (.tup (a ++ b)) else none
  | .lst a, .lst b => if a.length + b.length ≤ sizeLine then some (.lst (a ++ b)) else none
  | _, _ => none
def oSub : D → D → Option D
  | .int i, .int j => some (.int (i - j))
  | _, _ => none
def B64 (i : Int) : Prop := -(2 ^ 64) < i ∧ i < 2 ^ 64
def B63 (i : Int) : Prop := -(2 ^ 63) ≤ i ∧ i < 2 ^ 63
def B62 (i : Int) : Prop := -(2 ^ 62) ≤ i ∧ i < 2 ^ 62
open Classical in
noncomputable def oMul : D → D → Option D
  | .int i, .int j => if B64 i ∨ B64 j then some (.int (i * j)) else none
  | .lst ds, .int k => if B63 k ∧ ds.length * k.toNat ≤ sizeLine then some (.lst (List.replicate k.toNat ds).flatten) else none
  | _, _ => none
def oDiv : D → D → Option D
  | .int i, .int j => if 0 < j ∧ j < 1073741824 then some (.int (i / j)) else none
  | _, _ => none
def oMod : D → D → Option D
  | .int i, .int j => if 0 < j then some (.int (i % j)) else none
  | _, _ => none
def oPow : D → D → Option D
  | .int i, .int j => if 0 ≤ j ∧ j ≤ 1000000 ∧ i.natAbs < 2 ^ 64 then some (.int (i ^ j.toNat)) else none
  | _, _ => none
def oAnd : D → D → Option D
  | .int i, .int j => some (.int (Builtin.bitAnd i j))
  | _, _ => none
def intsD : List D → Option (List Int)
  | [] => some []
  | .int i :: ds => match intsD ds with
    | some ns => some (i :: ns)
    | none => none
  | _ => none
def ltT (a b : List D) : Option D := match intsD a, intsD b with
  | some ns, some ms => some (.bl (HT.lexLt ns ms))
  | _, _ => none
def oLt0 : D → D → Option D
  | .int i, .int j => some (.bl (decide (i < j)))
  | .str a, .str b => some (.bl (decide (a.cps.toList < b.cps.toList)))
  | _, _ => none
def oLt : D → D → Option D
  | .int i, .int j => some (.bl (decide (i < j)))
  | .str a, .str b => some (.bl (decide (a.cps.toList < b.cps.toList)))
  | .tup a, .tup b => ltT a b
  | _, _ => none
def oLe : D → D → Option D
  | .int i, .int j => some (.bl (decide (i ≤ j)))
  | .str a, .str b => some (.bl (!decide (b.cps.toList < a.cps.toList)))
  | _, _ => none
def oGt : D → D → Option D
  | .int i, .int j => some (.bl (decide (j < i)))
  | .str a, .str b => some (.bl (decide (b.cps.toList < a.cps.toList)))
  | _, _ => none
def oGe : D → D → Option D
  | .int i, .int j => some (.bl (decide (j ≤ i)))
  | .str a, .str b => some (.bl (!decide (a.cps.toList < b.cps.toList)))
  | _, _ => none
def isNon : D → Option Bool
  | .non => some true
  | .raw _ => none
  | _ => some false
def oIsN (d e : D) : Option D := match e with
  | .non => (isNon d).map .bl
  | _ => none
def oNotN (d e : D) : Option D := match e with
  | .non => (isNon d).map fun b => .bl (!b)
  | _ => none
def dIx {α : Type} (xs : List α) (i : Int) : Option α := atI xs i
def oIx : D → D → Option D
  | .lst ds, .int i => atI ds i
  | .tup ds, .int i => atI ds i
  | .str z, .int i => if z.length ≤ sizeLine then (atI z.cps.toList i).map fun c => .str ⟨#[c]⟩ else none
  | _, _ => none
theorem atI_rep {g : Gm} {F : Hp} {ds : List D} {xs : List V} {i : Int} {d : D} (r : RepL g F ds xs) (h : atI ds i = some d) : ∃ v, atI xs i = some v ∧ Rep g F d v := by
  unfold atI at h ⊢
  obtain ⟨j, h1, h2⟩ := Option.bind_eq_some_iff.mp h
  obtain ⟨v, a, b⟩ := r.get h2
  exact ⟨v, Option.bind_eq_some_iff.mpr ⟨j, by rw [← r.length]; exact h1, a⟩, b⟩
section
variable {g : Gm} {X : Cx}
def rAddA (K : PySem.W.Frag) : R2 := fun x y H Q => (((rI0 fun i j => .int (i + j)) x y H Q ∨ ∃ i j, x = .str i ∧ y = .str j ∧ i.length + j.length ≤ sizeLine ∧ Q (.str (i ++ j)) H) ∨ rCatA K x y H Q) ∨ rCat x y H Q
theorem opr_add : OpR X (binaryOp .Add) (rAddA X.K) := ((op_add.or op_add_str).or op_catA).or op_cat
theorem op2_add (g : Gm) : Op2 g (rAddA g.K) oAdd := by
  intro F H v u d e z Q sf rd re ho k
  cases d <;> cases e <;> try (simp [oAdd] at ho; done)
  · rename_i i j
    simp only [oAdd, Option.some.injEq] at ho
    subst ho
    rw [rd.int, re.int]
    exact .inl (.inl (.inl ⟨i, j, rfl, rfl, k _ _ _ .refl rfl⟩))
  · rename_i a b
    obtain ⟨hl, rfl⟩ := iteSome ho
    rw [rd.str, re.str]
    exact .inl (.inl (.inr ⟨a, b, rfl, rfl, hl, k _ _ _ .refl rfl⟩))
  · rename_i a b
    obtain ⟨hl, rfl⟩ := iteSome ho
    obtain ⟨p, xs, rfl, hx, rx⟩ := rd.tup sf
    obtain ⟨q, ys, rfl, hy, ry⟩ := re.tup sf
    refine .inl (.inr ⟨p, q, xs, ys, rfl, rfl, hx, hy, by rw [← rx.length, ← ry.length]; exact hl, fun e0 => ?_, fun n0 e0 => ?_, fun _ _ r hr => ?_⟩)
    · subst e0
      have : a = [] := List.length_eq_zero_iff.mp (by rw [rx.length]; rfl)
      subst this
      have re' : Rep g F (.tup b) (.ref q) := by rcases re with h | ⟨_, _, _, _, h⟩; exact h; exact h.elim
      exact k _ F H .refl re'
    · subst e0
      have : b = [] := List.length_eq_zero_iff.mp (by rw [ry.length]; rfl)
      subst this
      rw [List.append_nil] at k
      have rd' : Rep g F (.tup a) (.ref p) := by rcases rd with h | ⟨_, _, _, _, h⟩; exact h; exact h.elim
      exact k _ F H .refl rd'
    · exact k _ _ _ (.new _ sf hr) ⟨r, _, rfl, .of upd_same, (rx.append ry).mono (Same.new (sf.free hr))⟩
  · rename_i a b
    obtain ⟨hl, rfl⟩ := iteSome ho
    obtain ⟨p, xs, rfl, hx, rx⟩ := rd.lst sf
    obtain ⟨q, ys, rfl, hy, ry⟩ := re.lst sf
    refine .inr ⟨p, q, xs, ys, rfl, rfl, hx, hy, by rw [← rx.length, ← ry.length]; exact hl, fun r hr => ?_⟩
    exact k _ _ _ (.new _ sf hr) ⟨r, _, rfl, upd_same, (rx.append ry).mono (Same.new (sf.free hr))⟩
/-- list + list, a new one -/
def oCat : D → D → Option D
  | .lst a, .lst b => if a.length + b.length ≤ sizeLine then some (.lst (a ++ b)) else none
  | _, _ => none
theorem op2n_cat (g : Gm) : Op2N g rCat oCat := by
  intro F H v u d e z Q sf rd re ho k
  cases d <;> cases e <;> try (simp [oCat] at ho; done)
  rename_i a b
  obtain ⟨hl, rfl⟩ := iteSome ho
  obtain ⟨p, xs, rfl, hx, rx⟩ := rd.lst sf
  obtain ⟨q, ys, rfl, hy, ry⟩ := re.lst sf
  exact ⟨p, q, xs, ys, rfl, rfl, hx, hy, by rw [← rx.length, ← ry.length]; exact hl, fun r hr => k r _ hr ⟨_, rfl, rx.append ry⟩⟩
open Classical in
noncomputable def oRep : D → D → Option D
  | .lst ds, .int k => if B63 k ∧ ds.length * k.toNat ≤ sizeLine then some (.lst (List.replicate k.toNat ds).flatten) else none
  | _, _ => none
open Classical in
theorem op2n_rep (g : Gm) : Op2N g rRep oRep := by
  intro F H v u d e z Q sf rd re ho k
  cases d <;> cases e <;> try (simp [oRep] at ho; done)
  rename_i ds i
  obtain ⟨hl, rfl⟩ := iteSome ho
  obtain ⟨p, xs, rfl, hx, rx⟩ := rd.lst sf
  rw [re.int]
  exact ⟨p, i, xs, rfl, rfl, hx, hl.1.1, hl.1.2, by rw [← rx.length]; exact hl.2, fun r hr => k r _ hr ⟨_, rfl, rx.rep _⟩⟩
theorem op2_sub (g : Gm) : Op2 g (rI0 fun i j => .int (i - j)) oSub := by
  intro F H v u d e z Q sf rd re ho k
  cases d <;> cases e <;> try (simp [oSub] at ho; done)
  simp only [oSub, Option.some.injEq] at ho
  subst ho
  rw [rd.int, re.int]
  exact ⟨_, _, rfl, rfl, k _ _ _ .refl rfl⟩
def rMulA : R2 := fun x y H Q => (rI CMul fun i j => .int (i * j)) x y H Q ∨ rRep x y H Q
theorem opr_mul : OpR X (binaryOp .Mult) rMulA := op_mul.or op_rep
open Classical in
theorem op2_mul (g : Gm) : Op2 g rMulA oMul := by
  intro F H v u d e z Q sf rd re ho k
  cases d <;> cases e <;> try (simp [oMul] at ho; done)
  · obtain ⟨hc, rfl⟩ := iteSome ho
    rw [rd.int, re.int]
    exact .inl ⟨_, _, rfl, rfl, hc, k _ _ _ .refl rfl⟩
  · rename_i ds i
    obtain ⟨hl, rfl⟩ := iteSome ho
    obtain ⟨p, xs, rfl, hx, rx⟩ := rd.lst sf
    rw [re.int]
    exact .inr ⟨p, i, xs, rfl, rfl, hx, hl.1.1, hl.1.2, by rw [← rx.length]; exact hl.2, fun r hr => k _ _ _ (.new _ sf hr) ⟨r, _, rfl, upd_same, (rx.rep _).mono (Same.new (sf.free hr))⟩⟩
theorem op2_div (g : Gm) : Op2 g (rI CDiv fun i j => .int (i / j)) oDiv := by
  intro F H v u d e z Q sf rd re ho k
  cases d <;> cases e <;> try (simp [oDiv] at ho; done)
  obtain ⟨hc, rfl⟩ := iteSome ho
  rw [rd.int, re.int]
  exact ⟨_, _, rfl, rfl, hc, k _ _ _ .refl rfl⟩
theorem op2_mod (g : Gm) : Op2 g (rI (fun _ j => 0 < j) fun i j => .int (i % j)) oMod := by
  intro F H v u d e z Q sf rd re ho k
  cases d <;> cases e <;> try (simp [oMod] at ho; done)
  obtain ⟨hc, rfl⟩ := iteSome ho
  rw [rd.int, re.int]
  exact ⟨_, _, rfl, rfl, hc, k _ _ _ .refl rfl⟩
theorem op2_pow (g : Gm) : Op2 g (rI CPow fun i j => .int (i ^ j.toNat)) oPow := by
  intro F H v u d e z Q sf rd re ho k
  cases d <;> cases e <;> try (simp [oPow] at ho; done)
  obtain ⟨hc, rfl⟩ := iteSome ho
  rw [rd.int, re.int]
  exact ⟨_, _, rfl, rfl, hc, k _ _ _ .refl rfl⟩
theorem op2_and (g : Gm) : Op2 g (rI0 fun i j => .int (Builtin.bitAnd i j)) oAnd := by
  intro F H v u d e z Q sf rd re ho k
  cases d <;> cases e <;> try (simp [oAnd] at ho; done)
  simp only [oAnd, Option.some.injEq] at ho
  subst ho
  rw [rd.int, re.int]
  exact ⟨_, _, rfl, rfl, k _ _ _ .refl rfl⟩
def rCmpA (p : Int → Int → Bool) (q : Str → Str → Bool) : R2 := fun x y H Q => (rI0 fun i j => .bl (p i j)) x y H Q ∨ ∃ i j, x = .str i ∧ y = .str j ∧ Q (.bl (q i j)) H
theorem op2_cmp (g : Gm) {p : Int → Int → Bool} {q : Str → Str → Bool} {o : D → D → Option D} (h1 : ∀ i j, o (.int i) (.int j) = some (.bl (p i j))) (h2 : ∀ i j, o (.str i) (.str j) = some (.bl (q i j)))
    (h3 : ∀ d e z, o d e = some z → (∃ i j, d = .int i ∧ e = .int j) ∨ ∃ i j, d = .str i ∧ e = .str j) : Op2 g (rCmpA p q) o := by
  intro F H v u d e z Q sf rd re ho k
  rcases h3 d e z ho with ⟨i, j, rfl, rfl⟩ | ⟨i, j, rfl, rfl⟩
  · rw [h1] at ho; cases ho
    rw [rd.int, re.int]
    exact .inl ⟨_, _, rfl, rfl, k _ _ _ .refl rfl⟩
  · rw [h2] at ho; cases ho
    rw [rd.str, re.str]
    exact .inr ⟨_, _, rfl, rfl, k _ _ _ .refl rfl⟩
def rLtA (K : PySem.W.Frag) : R2 := fun x y H Q => (rCmpA (fun i j => decide (i < j)) fun i j => decide (i.cps.toList < j.cps.toList)) x y H Q ∨ rLtT K x y H Q
theorem opr_lt (hu : X.A.units + 64 < cLine) : OpR X (compareOp .Lt) (rLtA X.K) := (op_lt.or op_lt_str).or (op_ltT (by omega))
theorem opr_le : OpR X (compareOp .LtE) (rCmpA (fun i j => decide (i ≤ j)) fun i j => !decide (j.cps.toList < i.cps.toList)) := op_le.or op_le_str
theorem opr_gt : OpR X (compareOp .Gt) (rCmpA (fun i j => decide (j < i)) fun i j => decide (j.cps.toList < i.cps.toList)) := op_gt.or op_gt_str
theorem opr_ge : OpR X (compareOp .GtE) (rCmpA (fun i j => decide (j ≤ i)) fun i j => !decide (i.cps.toList < j.cps.toList)) := op_ge.or op_ge_str
theorem op2_lt0 (g : Gm) : Op2 g (rCmpA (fun i j => decide (i < j)) fun i j => decide (i.cps.toList < j.cps.toList)) oLt0 := op2_cmp g (fun _ _ => rfl) (fun _ _ => rfl) fun d e z h => by
  cases d <;> cases e <;> first | exact .inl ⟨_, _, rfl, rfl⟩ | exact .inr ⟨_, _, rfl, rfl⟩ | cases h
theorem repl_intsD {g : Gm} {F : Hp} : ∀ {ds : List D} {ns : List Int} {xs : List V}, RepL g F ds xs → intsD ds = some ns → xs = ns.map V.int
  | [], ns, xs, r, e => by
    cases e
    exact r
  | d :: ds, ns, xs, r, e => by
    cases d with
    | int i =>
      rw [intsD] at e
      obtain ⟨x, ys, rfl, rx, ry⟩ := r
      cases z : intsD ds with
      | none => rw [z] at e; cases e
      | some ms =>
        rw [z] at e
        cases e
        rw [repl_intsD ry z]
        obtain rfl : x = .int i := rx
        rfl
    | _ => cases e
theorem op2_lt (g : Gm) : Op2 g (rLtA g.K) oLt := by
  intro F H v u d e z Q sf rd re ho k
  by_cases ht : ∃ a b, d = .tup a ∧ e = .tup b
  · obtain ⟨a, b, rfl, rfl⟩ := ht
    have ho : ltT a b = some z := ho
    unfold ltT at ho
    cases ha : intsD a with
    | none => rw [ha] at ho; cases ho
    | some ns =>
      cases hb : intsD b with
      | none => rw [ha, hb] at ho; cases ho
      | some ms =>
        rw [ha, hb] at ho
        cases ho
        obtain ⟨p, xs, rfl, hp, rp⟩ := rd.tup sf
        obtain ⟨q, ys, rfl, hq, rq⟩ := re.tup sf
        rw [repl_intsD rp ha] at hp
        rw [repl_intsD rq hb] at hq
        exact .inr ⟨p, q, ns, ms, rfl, rfl, hp, hq, k _ _ _ .refl rfl⟩
  · refine .inl (op2_lt0 g F H v u d e z Q sf rd re ?_ k)
    rw [← ho]
    cases d <;> cases e <;> first | rfl | exact (ht ⟨_, _, rfl, rfl⟩).elim
theorem op2_le (g : Gm) : Op2 g (rCmpA (fun i j => decide (i ≤ j)) fun i j => !decide (j.cps.toList < i.cps.toList)) oLe := op2_cmp g (fun _ _ => rfl) (fun _ _ => rfl) fun d e z h => by
  cases d <;> cases e <;> first | exact .inl ⟨_, _, rfl, rfl⟩ | exact .inr ⟨_, _, rfl, rfl⟩ | cases h
theorem op2_gt (g : Gm) : Op2 g (rCmpA (fun i j => decide (j < i)) fun i j => decide (j.cps.toList < i.cps.toList)) oGt := op2_cmp g (fun _ _ => rfl) (fun _ _ => rfl) fun d e z h => by
  cases d <;> cases e <;> first | exact .inl ⟨_, _, rfl, rfl⟩ | exact .inr ⟨_, _, rfl, rfl⟩ | cases h
theorem op2_ge (g : Gm) : Op2 g (rCmpA (fun i j => decide (j ≤ i)) fun i j => !decide (i.cps.toList < j.cps.toList)) oGe := op2_cmp g (fun _ _ => rfl) (fun _ _ => rfl) fun d e z h => by
  cases d <;> cases e <;> first | exact .inl ⟨_, _, rfl, rfl⟩ | exact .inr ⟨_, _, rfl, rfl⟩ | cases h
theorem op2_eq (g : Gm) : Op2 g (rEqD g.K) oEq := by
  intro F H v u d e z Q sf rd re ho k
  unfold oEq dEq at ho
  split at ho
  · rename_i p q hp hq
    split at ho
    · rename_i hs
      cases ho
      exact ⟨p, q, dp_ofH sf rd hp, dp_ofH sf re hq, hs.1, hs.2, k _ _ _ .refl rfl⟩
    · cases ho
  · cases ho
theorem op2_ne (g : Gm) : Op2 g (rNeD g.K) oNe := by
  intro F H v u d e z Q sf rd re ho k
  unfold oNe dEq at ho
  split at ho
  · rename_i p q hp hq
    split at ho
    · rename_i hs
      cases ho
      exact ⟨p, q, dp_ofH sf rd hp, dp_ofH sf re hq, hs.1, hs.2, k _ _ _ .refl rfl⟩
    · cases ho
  · cases ho
def rIsNA : R2 := fun x y H Q => y = .non ∧ Q (.bl (decide (x = .non))) H
def rNotNA : R2 := fun x y H Q => y = .non ∧ Q (.bl (!decide (x = .non))) H
theorem isNon_ok {F H : Hp} {d : D} {v : V} {b : Bool} (rd : RepH g F H d v) (h : isNon d = some b) : decide (v = .non) = b := by
  cases d with
  | non => cases h; rw [rd.non]; rfl
  | bl _ => cases h; rw [rd.bl]; rfl
  | int _ => cases h; rw [rd.int]; rfl
  | str _ => cases h; rw [rd.str]; rfl
  | ty _ => cases h; rw [rd.ty]; rfl
  | cls _ => cases h; rw [rd.cls]; rfl
  | raw _ => cases h
  | emp => cases h; rcases rd with ⟨a, e, _⟩ | ⟨_, _, _, _, e⟩; rw [e]; rfl; exact e.elim
  | tup _ => cases h; rcases rd with ⟨a, xs, e, _⟩ | ⟨_, _, _, _, e⟩; rw [e]; rfl; exact e.elim
  | scr _ => cases h; rcases rd with ⟨a, e, _⟩ | ⟨_, _, _, _, e⟩; rw [e]; rfl; exact e.elim
  | lst _ => cases h; rcases rd with ⟨a, xs, e, _⟩ | ⟨_, _, e, _⟩ <;> (rw [e]; rfl)
  | ins _ _ _ => cases h; rcases rd with ⟨a, dx, xs, e, _⟩ | ⟨_, _, e, _⟩ <;> (rw [e]; rfl)
  | dk _ _ => cases h; rcases rd with ⟨a, xs, e, _⟩ | ⟨_, _, e, _⟩ <;> (rw [e]; rfl)
  | dt _ _ => cases h; rcases rd with ⟨a, xs, e, _⟩ | ⟨_, _, e, _⟩ <;> (rw [e]; rfl)
theorem op2_isN (g : Gm) : Op2 g rIsNA oIsN := by
  intro F H v u d e z Q sf rd re ho k
  cases e <;> try (simp [oIsN] at ho; done)
  unfold oIsN at ho
  obtain ⟨b, h1, rfl⟩ := Option.map_eq_some_iff.mp ho
  exact ⟨re.non, by rw [isNon_ok rd h1]; exact k _ _ _ .refl rfl⟩
theorem op2_notN (g : Gm) : Op2 g rNotNA oNotN := by
  intro F H v u d e z Q sf rd re ho k
  cases e <;> try (simp [oNotN] at ho; done)
  unfold oNotN at ho
  obtain ⟨b, h1, rfl⟩ := Option.map_eq_some_iff.mp ho
  exact ⟨re.non, by rw [isNon_ok rd h1]; exact k _ _ _ .refl rfl⟩
/-! in -/
def rInT (K : PySem.W.Frag) : R2 := fun x y H Q => ∃ d ds, Dp K H x d ∧ Dp K H y (.tuple ds) ∧ SeqAt.shaped d = true ∧ SeqAt.shaped (.list ds) = true ∧ Q (.bl (ds.any fun z => PyData.eqv z d)) H
def rNotInT (K : PySem.W.Frag) : R2 := fun x y H Q => ∃ d ds, Dp K H x d ∧ Dp K H y (.tuple ds) ∧ SeqAt.shaped d = true ∧ SeqAt.shaped (.list ds) = true ∧ Q (.bl (!ds.any fun z => PyData.eqv z d)) H
theorem room_in' {u c : Nat} {d : PyData} {ds : List PyData} (hd : SeqAt.shaped d = true) (hu : u + 65 < c) : u + 1 + min (PyData.depthAll ds) d.depth < c := by
  have h1 : d.depth ≤ 64 := SeqAt.depth_of_shaped hd
  have h2 := Nat.min_le_right (PyData.depthAll ds) d.depth
  omega
theorem op_inT (hu : X.A.units + 65 < cLine) : OpR X (compareOp .In) (rInT X.K) := by
  intro pins s σ H x y v u Q I rx ry h
  obtain ⟨d, ds, hd, he, sd, se, q⟩ := h
  obtain ⟨as, r1⟩ := Dp.reads I d x v hd rx
  obtain ⟨bs, r2⟩ := Dp.reads I (.tuple ds) y u he ry
  exact SeqAt.in_tuple_reads r2 r1 (SeqAt.canLay_of_shaped se) (SeqAt.canLay_of_shaped sd) (room_in' sd hu) ⟨.bl _, H, I, rfl, q⟩
theorem op_notInT (hu : X.A.units + 65 < cLine) : OpR X (compareOp .NotIn) (rNotInT X.K) := by
  intro pins s σ H x y v u Q I rx ry h
  obtain ⟨d, ds, hd, he, sd, se, q⟩ := h
  obtain ⟨as, r1⟩ := Dp.reads I d x v hd rx
  obtain ⟨bs, r2⟩ := Dp.reads I (.tuple ds) y u he ry
  exact SeqAt.notIn_tuple_reads r2 r1 (SeqAt.canLay_of_shaped se) (SeqAt.canLay_of_shaped sd) (room_in' sd hu) ⟨.bl _, H, I, rfl, q⟩
def rInA (K : PySem.W.Frag) : R2 := fun x y H Q => (rInD K x y H Q ∨ rInT K x y H Q) ∨ ∃ i j, x = .str i ∧ y = .str j ∧ Q (.bl (!(Builtin.Str.occurrences j i 0 j.length 1).isEmpty)) H
def rNotInA (K : PySem.W.Frag) : R2 := fun x y H Q => (rNotInD K x y H Q ∨ rNotInT K x y H Q) ∨ ∃ i j, x = .str i ∧ y = .str j ∧ Q (.bl (!(!(Builtin.Str.occurrences j i 0 j.length 1).isEmpty))) H
theorem opr_in (hu : X.A.units + 65 < cLine) : OpR X (compareOp .In) (rInA X.K) := ((op_inD hu).or (op_inT hu)).or op_in_str
theorem opr_notIn (hu : X.A.units + 65 < cLine) : OpR X (compareOp .NotIn) (rNotInA X.K) := ((op_notInD hu).or (op_notInT hu)).or op_notin_str
theorem dIn_ok {F H : Hp} {v u : V} {d e : D} {b : Bool} (sf : Same F H) (rd : RepH g F H d v) (re : RepH g F H e u) (h : dIn d e = some b) :
    ((∃ p ds, Dp g.K H v p ∧ Dp g.K H u (.list ds) ∧ SeqAt.shaped p = true ∧ SeqAt.shaped (.list ds) = true ∧ (ds.any fun z => PyData.eqv z p) = b) ∨ (∃ p ds, Dp g.K H v p ∧ Dp g.K H u (.tuple ds) ∧ SeqAt.shaped p = true ∧ SeqAt.shaped (.list ds) = true ∧ (ds.any fun z => PyData.eqv z p) = b)) ∨
      ∃ i j, v = .str i ∧ u = .str j ∧ (!(Builtin.Str.occurrences j i 0 j.length 1).isEmpty) = b := by
  unfold dIn at h
  cases e with
  | lst es =>
    simp only at h
    split at h
    · rename_i p qs hp hq
      split at h
      · rename_i hs
        cases h
        exact .inl (.inl ⟨p, qs, dp_ofH sf rd hp, dp_ofH sf re (by show (toPyL es).map PyData.list = _; rw [hq]; rfl), hs.1, hs.2, rfl⟩)
      · cases h
    · cases h
  | tup es =>
    simp only at h
    split at h
    · rename_i p qs hp hq
      split at h
      · rename_i hs
        cases h
        exact .inl (.inr ⟨p, qs, dp_ofH sf rd hp, dp_ofH sf re (by show (toPyL es).map PyData.tuple = _; rw [hq]; rfl), hs.1, hs.2, rfl⟩)
      · cases h
    · cases h
  | str y =>
    simp only at h
    cases d <;> try (simp at h; done)
    cases h
    exact .inr ⟨_, y, rd.str, re.str, rfl⟩
  | _ => cases h
theorem op2_in (g : Gm) : Op2 g (rInA g.K) oIn := by
  intro F H v u d e z Q sf rd re ho k
  unfold oIn at ho
  obtain ⟨b, h1, rfl⟩ := Option.map_eq_some_iff.mp ho
  have q := k (.bl b) _ _ .refl rfl
  rcases dIn_ok sf rd re h1 with (⟨p, ds, a1, a2, a3, a4, rfl⟩ | ⟨p, ds, a1, a2, a3, a4, rfl⟩) | ⟨i, j, a1, a2, rfl⟩
  · exact .inl (.inl ⟨p, ds, a1, a2, a3, a4, q⟩)
  · exact .inl (.inr ⟨p, ds, a1, a2, a3, a4, q⟩)
  · exact .inr ⟨i, j, a1, a2, q⟩
theorem op2_notIn (g : Gm) : Op2 g (rNotInA g.K) oNotIn := by
  intro F H v u d e z Q sf rd re ho k
  unfold oNotIn at ho
  obtain ⟨b, h1, rfl⟩ := Option.map_eq_some_iff.mp ho
  have q := k (.bl (!b)) _ _ .refl rfl
  rcases dIn_ok sf rd re h1 with (⟨p, ds, a1, a2, a3, a4, rfl⟩ | ⟨p, ds, a1, a2, a3, a4, rfl⟩) | ⟨i, j, a1, a2, rfl⟩
  · exact .inl (.inl ⟨p, ds, a1, a2, a3, a4, q⟩)
  · exact .inl (.inr ⟨p, ds, a1, a2, a3, a4, q⟩)
  · exact .inr ⟨i, j, a1, a2, q⟩
theorem op2_ix (g : Gm) : Op2 g (rIx g.K) oIx := by
  intro F H v u d e z Q sf rd re ho k
  cases d <;> cases e <;> try (simp [oIx] at ho; done)
  · rename_i z' i
    obtain ⟨hl, ho⟩ := iteSomeO ho
    obtain ⟨c, h1, rfl⟩ := Option.map_eq_some_iff.mp ho
    rw [rd.str, re.int]
    exact .inr (.inr ⟨z', i, c, rfl, rfl, hl, h1, k _ _ _ .refl rfl⟩)
  · rename_i ds i
    obtain ⟨p, xs, rfl, hx, rx⟩ := rd.tup sf
    obtain ⟨w, h1, h2⟩ := atI_rep rx ho
    rw [re.int]
    exact .inr (.inl ⟨p, xs, i, w, rfl, rfl, hx, h1, k _ _ _ .refl h2⟩)
  · rename_i ds i
    obtain ⟨p, xs, rfl, hx, rx⟩ := rd.lst sf
    obtain ⟨w, h1, h2⟩ := atI_rep rx ho
    rw [re.int]
    exact .inl ⟨p, xs, i, w, rfl, rfl, .of hx, h1, k _ _ _ .refl h2⟩
end

/-! ## argument lists -/
def oLen : List D → Option D
  | [.lst ds] => if ds.length ≤ sizeLine then some (.int ds.length) else none
  | [.tup ds] => if ds.length ≤ sizeLine then some (.int ds.length) else none
  | [.scr ns] => if ns.length ≤ sizeLine then some (.int ns.length) else none
  | [.str z] => if z.length ≤ sizeLine then some (.int z.length) else none
  | _ => none
def asBs : List D → Option (List Bool)
  | [] => some []
  | .bl b :: r => (asBs r).map (b :: ·)
  | _ => none
def oAll : List D → Option D
  | [.lst ds] => (asBs ds).map fun bs => .bl (bs.all id)
  | _ => none
def oAny : List D → Option D
  | [.lst ds] => (asBs ds).map fun bs => .bl (bs.any id)
  | _ => none
def oTuple : List D → Option D
  | [.lst ds] => some (.tup ds)
  | [.tup ds] => some (.tup ds)
  | _ => none
def oList : List D → Option D
  | [.lst ds] => some (.lst ds)
  | [.tup ds] => some (.lst ds)
  | [.scr ns] => some (.lst (ns.map .int))
  | _ => none
def oInt : List D → Option D
  | [.int i] => some (.int i)
  | [.bl b] => some (.int (if b then 1 else 0))
  | _ => none
def oAbs : List D → Option D
  | [.int i] => some (.int (if i < 0 then -i else i))
  | _ => none
def oMin2 : List D → Option D
  | [.int i, .int j] => some (.int (if j < i then j else i))
  | _ => none
def oMax2 : List D → Option D
  | [.int i, .int j] => some (.int (if j > i then j else i))
  | _ => none
def tyName : D → Option String
  | .non => some "NoneType"
  | .bl _ => some "bool"
  | .int _ => some "int"
  | .str _ => some "str"
  | .tup _ => some "tuple"
  | .lst _ => some "list"
  | .scr _ => some "list"
  | .emp => some "dict"
  | .dk _ _ => some "dict"
  | .dt _ _ => some "dict"
  | .ins _ _ _ => some "own"
  | _ => none
def isIns : D → Bool
  | .ins _ _ _ => true
  | _ => false
def subTy (a b : String) : Bool := a == b || (a == "bool" && b == "int")
def tys : List String := ["NoneType", "bool", "int", "str", "tuple", "list", "dict"]
def tgs : List String := ["bool", "int", "str", "tuple", "list", "dict"]
theorem kitB_tys : ∀ a ∈ tys, ∀ b ∈ tgs, kitB a b = some (subTy a b) := by decide +kernel
/-- isinstance of a thing for one class (N: how many own classes there are) -/
def isiOne (N : Nat) (x : D) : D → Option Bool
  | .ty T => match tyName x with
    | some t => if tgs.contains T = true then some (subTy t T) else none
    | none => none
  | .cls c => match x with
    | .ins c' _ _ => if c = c' then some true else (if c < N ∧ c' < N then some false else none)
    | x => match tyName x with
      | some _ => some false
      | none => none
  | _ => none
def oIsi (N : Nat) : List D → Option D
  | [x, c] => (isiOne N x c).map .bl
  | _ => none
section
variable {g : Gm} {X : Cx}
theorem opL_len (g : Gm) : OpL g (fun xs H Q => (∃ p ys, xs = [.ref p] ∧ (SqL g.K H p ys ∨ SqT g.K H p ys) ∧ Q (.int ys.length) H) ∨ ∃ z, xs = [.str z] ∧ z.length ≤ sizeLine ∧ Q (.int z.length) H) oLen := by
  intro F H vs ds z Q sf r ho k
  unfold oLen at ho
  split at ho
  · split at ho
    · cases ho
      obtain ⟨x, rfl, rx⟩ := r.one
      obtain ⟨p, xs, rfl, hx, rl⟩ := rx.lst sf
      exact .inl ⟨p, xs, rfl, .inl (.of hx), by rw [← rl.length]; exact k _ _ _ .refl rfl⟩
    · cases ho
  · split at ho
    · cases ho
      obtain ⟨x, rfl, rx⟩ := r.one
      obtain ⟨p, xs, rfl, hx, rl⟩ := rx.tup sf
      exact .inl ⟨p, xs, rfl, .inr hx, by rw [← rl.length]; exact k _ _ _ .refl rfl⟩
    · cases ho
  · split at ho
    · cases ho
      obtain ⟨x, rfl, rx⟩ := r.one
      obtain ⟨p, rfl, hx⟩ := rx.scr sf
      exact .inl ⟨p, _, rfl, .inl hx, by rw [List.length_map]; exact k _ _ _ .refl rfl⟩
    · cases ho
  · split at ho
    · rename_i hz
      cases ho
      obtain ⟨x, rfl, rx⟩ := r.one
      rw [rx.str]
      exact .inr ⟨_, rfl, hz, k _ _ _ .refl rfl⟩
    · cases ho
  · cases ho
theorem callr_len : CallR X (.builtin "len") (fun xs H Q => (∃ p ys, xs = [.ref p] ∧ (SqL X.K H p ys ∨ SqT X.K H p ys) ∧ Q (.int ys.length) H) ∨ ∃ z, xs = [.str z] ∧ z.length ≤ sizeLine ∧ Q (.int z.length) H) := call_len_seq.or call_len_str
theorem asBs_ok {F : Hp} : ∀ {ds : List D} {vs : List V} {bs : List Bool}, RepL g F ds vs → asBs ds = some bs → vs = bs.map V.bl
  | [], _, _, h, e => by cases (show _ = [] from h); cases e; rfl
  | d :: ds, _, _, h, e => by
    obtain ⟨x, xs, rfl, r, t⟩ := h
    cases d <;> try (simp [asBs] at e; done)
    rename_i b
    have e : (asBs ds).map (b :: ·) = some _ := e
    obtain ⟨bs, e1, rfl⟩ := Option.map_eq_some_iff.mp e
    rw [asBs_ok t e1, show x = V.bl b from r]
    rfl
theorem opL_all (g : Gm) : OpL g (rAll g.K) oAll := by
  intro F H vs ds z Q sf r ho k
  unfold oAll at ho
  split at ho
  · obtain ⟨bs, h1, rfl⟩ := Option.map_eq_some_iff.mp ho
    obtain ⟨x, rfl, rx⟩ := r.one
    obtain ⟨p, xs, rfl, hx, rl⟩ := rx.lst sf
    rw [asBs_ok rl h1] at hx
    exact ⟨p, bs, rfl, .of hx, k _ _ _ .refl rfl⟩
  · cases ho
theorem opL_any (g : Gm) : OpL g (rAny g.K) oAny := by
  intro F H vs ds z Q sf r ho k
  unfold oAny at ho
  split at ho
  · obtain ⟨bs, h1, rfl⟩ := Option.map_eq_some_iff.mp ho
    obtain ⟨x, rfl, rx⟩ := r.one
    obtain ⟨p, xs, rfl, hx, rl⟩ := rx.lst sf
    rw [asBs_ok rl h1] at hx
    exact ⟨p, bs, rfl, .of hx, k _ _ _ .refl rfl⟩
  · cases ho
theorem opL_tuple (g : Gm) : OpL g (fun xs H Q => ∃ p ys, xs = [.ref p] ∧ ((SqL g.K H p ys ∧ ∀ l, H l = none → Q (.ref l) (upd H l (.tup ys))) ∨ (SqT g.K H p ys ∧ Q (.ref p) H))) oTuple := by
  intro F H vs ds z Q sf r ho k
  unfold oTuple at ho
  split at ho
  · cases ho
    obtain ⟨x, rfl, rx⟩ := r.one
    obtain ⟨p, xs, rfl, hx, rl⟩ := rx.lst sf
    exact ⟨p, xs, rfl, .inl ⟨.of hx, fun l hl => k _ _ _ (.new _ sf hl) ⟨l, xs, rfl, .of upd_same, rl.mono (Same.new (sf.free hl))⟩⟩⟩
  · rename_i ts
    cases ho
    obtain ⟨x, rfl, rx⟩ := r.one
    have rx' := rx
    obtain ⟨p, xs, rfl, hx, rl⟩ := rx.tup sf
    have rx2 : Rep g F (.tup ts) (.ref p) := by rcases rx' with h | ⟨_, _, _, _, h⟩; exact h; exact h.elim
    exact ⟨p, xs, rfl, .inr ⟨hx, k _ _ _ .refl rx2⟩⟩
  · cases ho
theorem opN_list (g : Gm) : OpN g (fun xs H Q => ∃ p ys, xs = [.ref p] ∧ (SqL g.K H p ys ∨ SqT g.K H p ys) ∧ ∀ l, H l = none → Q (.ref l) (upd H l (.lst ys))) oList := by
  intro F H vs ds z Q sf r ho k
  unfold oList at ho
  split at ho
  · cases ho
    obtain ⟨x, rfl, rx⟩ := r.one
    obtain ⟨p, xs, rfl, hx, rl⟩ := rx.lst sf
    exact ⟨p, xs, rfl, .inl (.of hx), fun l hl => k _ _ hl ⟨xs, rfl, rl⟩⟩
  · cases ho
    obtain ⟨x, rfl, rx⟩ := r.one
    obtain ⟨p, xs, rfl, hx, rl⟩ := rx.tup sf
    exact ⟨p, xs, rfl, .inr hx, fun l hl => k _ _ hl ⟨xs, rfl, rl⟩⟩
  · cases ho
    obtain ⟨x, rfl, rx⟩ := r.one
    obtain ⟨p, rfl, hx⟩ := rx.scr sf
    exact ⟨p, _, rfl, .inl hx, fun l hl => k _ _ hl ⟨_, rfl, RepL.ints _⟩⟩
  · cases ho
theorem opL_int (g : Gm) : OpL g (fun xs H Q => (∃ i, xs = [.int i] ∧ Q (.int i) H) ∨ ∃ k, xs = [.bl k] ∧ Q (.int (if k then 1 else 0)) H) oInt := by
  intro F H vs ds z Q sf r ho k
  unfold oInt at ho
  split at ho
  · cases ho
    obtain ⟨x, rfl, rx⟩ := r.one
    rw [rx.int]
    exact .inl ⟨_, rfl, k _ _ _ .refl rfl⟩
  · cases ho
    obtain ⟨x, rfl, rx⟩ := r.one
    rw [rx.bl]
    exact .inr ⟨_, rfl, k _ _ _ .refl rfl⟩
  · cases ho
theorem opL_abs (g : Gm) : OpL g (fun xs H Q => ∃ i, xs = [.int i] ∧ Q (.int (if i < 0 then -i else i)) H) oAbs := by
  intro F H vs ds z Q sf r ho k
  unfold oAbs at ho
  split at ho
  · cases ho
    obtain ⟨x, rfl, rx⟩ := r.one
    rw [rx.int]
    exact ⟨_, rfl, k _ _ _ .refl rfl⟩
  · cases ho
theorem opL_min2 (g : Gm) : OpL g (fun xs H Q => ∃ i j, xs = [.int i, .int j] ∧ Q (.int (if j < i then j else i)) H) oMin2 := by
  intro F H vs ds z Q sf r ho k
  unfold oMin2 at ho
  split at ho
  · cases ho
    obtain ⟨x, y, rfl, rx, ry⟩ := r.two
    rw [rx.int, ry.int]
    exact ⟨_, _, rfl, k _ _ _ .refl rfl⟩
  · cases ho
theorem opL_max2 (g : Gm) : OpL g (fun xs H Q => ∃ i j, xs = [.int i, .int j] ∧ Q (.int (if j > i then j else i)) H) oMax2 := by
  intro F H vs ds z Q sf r ho k
  unfold oMax2 at ho
  split at ho
  · cases ho
    obtain ⟨x, y, rfl, rx, ry⟩ := r.two
    rw [rx.int, ry.int]
    exact ⟨_, _, rfl, k _ _ _ .refl rfl⟩
  · cases ho
/-! isinstance -/
theorem tyx_of {F H : Hp} {d : D} {v : V} {t : String} (sf : Same F H) (r : RepH g F H d v) (hi : isIns d = false) (h : tyName d = some t) : TyX g.K H v (.type t) ∧ t ∈ tys := by
  have sqt : ∀ {a : Addr} {xs : List V}, SqT g.K H a xs → TyX g.K H (.ref a) (.type "tuple") := fun {a xs} q => by
    rcases q with (q | ⟨o, q⟩) | ⟨o, its, n, hk, hc, _⟩
    · exact .base (.tup q)
    · exact .fTuple q
    · exact .kTuple hk hc
  have sql : ∀ {a : Addr} {xs : List V}, SqL g.K H a xs → TyX g.K H (.ref a) (.type "list") := fun {a xs} q => by
    rcases q with (q | ⟨o, q⟩) | ⟨o, its, n, hk, hc, _⟩
    · exact .base (.lst q)
    · exact .base (.frz q)
    · exact .kList hk hc
  cases d with
  | non => cases h; rw [r.non]; exact ⟨.base .non, by decide⟩
  | bl b => cases h; rw [r.bl]; exact ⟨.base (.bl b), by decide⟩
  | int b => cases h; rw [r.int]; exact ⟨.base (.int b), by decide⟩
  | str b => cases h; rw [r.str]; exact ⟨.base (.str b), by decide⟩
  | tup ds => cases h; obtain ⟨a, xs, rfl, q, _⟩ := r.tup sf; exact ⟨sqt q, by decide⟩
  | lst ds => cases h; obtain ⟨a, xs, rfl, q, _⟩ := r.lst sf; exact ⟨.base (.lst q), by decide⟩
  | scr ns => cases h; obtain ⟨a, rfl, q⟩ := r.scr sf; exact ⟨sql q, by decide⟩
  | emp => cases h; rcases r with ⟨a, rfl, q⟩ | ⟨_, _, _, _, e⟩; exact ⟨.base (.dK (sf _ _ q)), by decide⟩; exact e.elim
  | ins _ _ _ => cases hi
  | dk ks ds => cases h; obtain ⟨a, xs, rfl, q, _⟩ := r.dk sf; exact ⟨.base (.dK q), by decide⟩
  | dt ks ds => cases h; obtain ⟨a, xs, rfl, q, _⟩ := r.dt sf; exact ⟨.base (.dT q), by decide⟩
  | _ => cases h
/-- facts of the own classes: an instance's type is its class -/
structure InsTy (g : Gm) (c : Nat) : Prop where
  cl : Cls g.K (g.cls c)
  ha : PySem.W.findIn g.K (.ref (g.cls c)) "__class__" = some (some (.builtin "object.__class__"))
  hn : PySem.W.specialIn g.K (.builtin "object.__class__") "__get__" = some (some (.builtin "getset_descriptor.__get__"))
  htk : PySem.W.takesIn g.K (.builtin "object.__class__") = some true
  hm : PySem.W.mroIn g.K (g.cls c) (.type "object") = some true
  ci : (PySem.W.clsIn g.K (g.cls c)).isSome = true
  cy : PySem.W.typeIn g.K (.ref (g.cls c)) = some (.type "type")
  nb : ∀ T ∈ tgs, PySem.W.kitOne g.K (.ref (g.cls c)) (.type T) = some false
theorem subTy_own : ∀ T ∈ tgs, subTy "own" T = false := by decide +kernel
/-- a thing's type, as isinstance asks it -/
theorem tyx_kit {F H : Hp} {d : D} {v : V} {t : String} (hI : ∀ c, InsTy g c) (sf : Same F H) (r : RepH g F H d v) (h : tyName d = some t) : ∃ tv, TyX g.K H v tv ∧ ∀ T ∈ tgs, PySem.W.kitOne g.K tv (.type T) = some (subTy t T) := by
  cases hi : isIns d with
  | false =>
    obtain ⟨h1, h2⟩ := tyx_of sf r hi h
    exact ⟨_, h1, fun T hT => kit_ty (kitB_tys t h2 T hT)⟩
  | true =>
    cases d with
    | ins c ns ds =>
      cases h
      obtain ⟨a, dx, xs, rfl, q, _⟩ := r.ins sf
      obtain ⟨cl, ha, hn, htk, hm, _, _, nb⟩ := hI c
      exact ⟨_, .base (.ins q cl ha hn htk hm), fun T hT => by rw [nb T hT, subTy_own T hT]⟩
    | _ => cases hi
theorem sub_own {K : PySem.W.Frag} {C : Addr} : ∀ t ∈ tys, PySem.W.subIn K (.type t) (.ref C) = some false := by
  intro t ht
  simp only [tys, List.mem_cons, List.not_mem_nil, or_false] at ht
  rcases ht with rfl | rfl | rfl | rfl | rfl | rfl | rfl <;> rfl
theorem kit_own {K : PySem.W.Frag} {C : Addr} (ci : (PySem.W.clsIn K C).isSome = true) (cy : PySem.W.typeIn K (.ref C) = some (.type "type")) (t : String) (ht : t ∈ tys) : PySem.W.kitOne K (.type t) (.ref C) = some false := by
  have e1 : (Value.type t == Value.ref C) = false := rfl
  have e2 : ((PySem.W.clsIn K C).isSome && PySem.W.typeIn K (.ref C) == some (.type "type")) = true := by rw [ci, cy] <;> rfl
  unfold PySem.W.kitOne PySem.W.kitCls
  simp only [e1, e2, if_true, Bool.false_eq_true, if_false]
  exact sub_own t ht
/-- unlike own classes -/
def Unlike (g : Gm) (N : Nat) : Prop := ∀ c c', c < N → c' < N → c ≠ c' → PySem.W.kitOne g.K (.ref (g.cls c')) (.ref (g.cls c)) = some false
def clsV (g : Gm) : D → Option (V × Value)
  | .ty T => some (.ty T, .type T)
  | .cls c => some (.ref (g.cls c), .ref (g.cls c))
  | _ => none
theorem isiOne_ok {F H : Hp} {N : Nat} {x c : D} {v u : V} {b : Bool} (hI : ∀ c, InsTy g c) (hU : Unlike g N) (sf : Same F H) (rx : RepH g F H x v) (rc : RepH g F H c u) (h : isiOne N x c = some b) : ∃ t w, ClsV u w ∧ TyX g.K H v t ∧ PySem.W.kitOne g.K t w = some b := by
  unfold isiOne at h
  cases c with
  | ty T =>
    simp only at h
    split at h
    · rename_i t ht
      split at h
      · rename_i hT
        cases h
        obtain ⟨tv, h1, h2⟩ := tyx_kit hI sf rx ht
        rw [rc.ty]
        exact ⟨_, _, .ty T, h1, h2 T (by simpa using hT)⟩
      · cases h
    · cases h
  | cls c =>
    simp only at h
    split at h
    · rename_i c' ns ds
      obtain ⟨a, dx, xs, rfl, q, _⟩ := rx.ins sf
      rw [rc.cls]
      obtain ⟨cl, ha, hn, htk, hm, _, _, _⟩ := hI c'
      split at h
      · rename_i e
        cases h
        subst e
        exact ⟨_, _, .own _, .base (.ins q cl ha hn htk hm), by unfold PySem.W.kitOne; rw [if_pos (by simp)]⟩
      · rename_i ne
        split at h
        · rename_i hN
          cases h
          exact ⟨_, _, .own _, .base (.ins q cl ha hn htk hm), hU c c' hN.1 hN.2 ne⟩
        · cases h
    · rename_i hni
      split at h
      · rename_i t ht
        cases h
        obtain ⟨h1, h2⟩ := tyx_of sf rx (by cases x <;> first | rfl | exact (hni _ _ _ rfl).elim) ht
        rw [rc.cls]
        exact ⟨_, _, .own _, h1, kit_own (hI c).ci (hI c).cy t h2⟩
      · cases h
  | _ => cases h
theorem opL_isi (g : Gm) {N : Nat} (hI : ∀ c, InsTy g c) (hU : Unlike g N) : OpL g (rIsi g.K) (oIsi N) := by
  intro F H vs ds z Q sf r ho k
  unfold oIsi at ho
  split at ho
  · obtain ⟨b, h1, rfl⟩ := Option.map_eq_some_iff.mp ho
    obtain ⟨x, y, rfl, rx, ry⟩ := r.two
    obtain ⟨t, w, a1, a2, a3⟩ := isiOne_ok hI hU sf rx ry h1
    exact ⟨x, y, t, w, b, rfl, a1, a2, a3, k _ _ _ .refl rfl⟩
  · cases ho
end
end FL

namespace FL
open PySem PySem.Spec PyProof.Rows L2

/-! ## displays -/
def oTupD (ds : List D) : Option D := if ds.length ≤ sizeLine then some (.tup ds) else none
def oLstD (ds : List D) : Option D := if ds.length ≤ sizeLine then some (.lst ds) else none
section
variable {X : Cx} {g : Gm} {W : WX} {e a b c t : Expr} {es : List Expr} {pos : Pos} {st : Stmt} {ρ : Nat → Addr} {G F H : Hp} {E : Nv} {σ : L2.St}
def resV (o : List D → Option D) (E : Nv) (as : List Ar) : R D := match valsOf as with
  | none => .bad
  | some ds => R.some (o ds) E
def fOpV (o : List D → Option D) (fs : Nv → R (List Ar)) : Nv → R D := fun E => (fs E).bind fun as E1 => resV o E1 as
theorem fe_tup {fs : Nv → R (List Ar)} (h : PE X e (tTup (tG g W (relAs g) fs))) : FE X g W e (fOpV oTupD fs) := peImp h fun σ H Q ⟨ρ, G, E, F, st, q⟩ =>
  bindE st q fun as E1 vs F1 H1 st1 s1 r1 q1 => by
    unfold resV at q1
    cases z : valsOf as with
    | none => simp only [z] at q1; exact q1.elim
    | some ds =>
      simp only [z] at q1
      have rl := valsOf_ok r1 z
      unfold oTupD at q1
      by_cases hl : ds.length ≤ sizeLine
      · rw [if_pos hl] at q1
        exact ⟨by rw [← rl.length]; exact hl, fun p hp => q1 _ _ _ (st1.grow hp _) (Same.new (st1.fF hp)) ⟨p, vs, rfl, .of upd_same, rl.mono (Same.new (st1.fF hp))⟩⟩
      · rw [if_neg hl] at q1; exact q1.elim
theorem fn_lst {fs : Nv → R (List Ar)} (h : PE X e (tLst (tG g W (relAs g) fs))) : FN X g W e (fOpV oLstD fs) := peImp h fun σ H Q ⟨ρ, G, E, F, st, q⟩ =>
  bindN st q fun as E1 vs F1 H1 st1 s1 r1 q1 => by
    unfold resV at q1
    cases z : valsOf as with
    | none => simp only [z] at q1; exact q1.elim
    | some ds =>
      simp only [z] at q1
      have rl := valsOf_ok r1 z
      unfold oLstD at q1
      by_cases hl : ds.length ≤ sizeLine
      · rw [if_pos hl] at q1
        exact ⟨by rw [← rl.length]; exact hl, fun p hp => q1 _ _ F1 _ (st1.temp hp _) (st1.fG hp) ⟨vs, rfl, rl⟩ (Same.refl _)⟩
      · rw [if_neg hl] at q1; exact q1.elim

/-! ## slices -/
abbrev relP : Hp → L2.St → Option Int → Option Int → Prop := fun _ _ b c => b = c
abbrev FP (X : Cx) (g : Gm) (W : WX) (e : Option Expr) (f : Nv → R (Option Int)) : Prop := PO X e (tG g W relP f)
def pNone : Nv → R (Option Int) := fun E => .val none E
def asI : D → Option Int
  | .int i => some i
  | _ => none
def pSome (f : Nv → R D) : Nv → R (Option Int) := fun E => (f E).bind fun d E1 => match asI d with
  | some i => .val (some i) E1
  | none => .bad
theorem fp_none : FP X g W none pNone := ⟨fun pins s σ H Q I ⟨ρ, G, E, F, st, q⟩ => po_none.run pins s σ H Q I (q none F H st (Same.refl _) rfl)⟩
theorem fp_some {f : Nv → R D} (h : FE X g W e f) : FP X g W (some e) (pSome f) := ⟨fun pins s σ H Q I ⟨ρ, G, E, F, st, q⟩ => (po_some h).run pins s σ H Q I (bindE st q fun d E1 v F1 H1 st1 s1 r1 q1 => by
  cases d with
  | int i =>
    obtain rfl : v = .int i := r1
    exact ⟨i, rfl, q1 (some i) F1 H1 st1 (Same.refl _) rfl⟩
  | _ => exact q1.elim)⟩
def cutL {α : Type} (xs : List α) (lo hi : Option Int) : List α := (xs.drop (HT.sIx xs.length 0 lo)).take (HT.sIx xs.length xs.length hi - HT.sIx xs.length 0 lo)
theorem cutL_rep {ds : List D} {xs : List V} (r : RepL g F ds xs) (lo hi : Option Int) : RepL g F (cutL ds lo hi) (cutV xs lo hi) := by
  unfold cutL cutV
  rw [← r.length]
  exact (r.drop _).take _
def oSl (d : D) (lo hi : Option Int) : Option D := match d with
  | .tup ds => some (.tup (cutL ds lo hi))
  | .lst ds => some (.lst (cutL ds lo hi))
  | .scr ns => some (.lst (cutL (ns.map .int) lo hi))
  | .str z => if z.length ≤ sizeLine then some (.str (cutS z lo hi)) else none
  | _ => none
def rSlAll (K : PySem.W.Frag) : V → Option Int → Option Int → Hp → VK → Prop := fun x lo hi H Q => (rSlA K x lo hi H Q ∨ rSlL K x lo hi H Q) ∨ rSlS x lo hi H Q
theorem slr_all : SlR X (rSlAll X.K) := (sl_tupA.or sl_list).or sl_str
theorem oSl_ok {d z : D} {v : V} {lo hi : Option Int} {Q : VK} (sf : Same F H) (rd : RepH g F H d v) (ho : oSl d lo hi = some z) (k : ∀ w F' H', Grow g F H F' H' → Rep g F' z w → Q w H') : rSlAll g.K v lo hi H Q := by
  cases d with
  | tup ds =>
    cases ho
    have rd' : Rep g F (.tup ds) v := by rcases rd with h | ⟨_, _, _, _, h⟩; exact h; exact h.elim
    obtain ⟨p, xs, rfl, hx, rl⟩ := rd.tup sf
    refine .inl (.inl ⟨p, xs, rfl, hx, fun hw => ?_, fun _ l hl => ?_⟩)
    · have e : cutL ds lo hi = ds := by
        unfold cutL
        rw [rl.length, hw.1, hw.2, List.drop_zero, Nat.sub_zero]
        exact List.take_of_length_le (by rw [rl.length]; exact Nat.le_refl _)
      rw [e] at k
      exact k _ _ _ .refl rd'
    · exact k _ _ _ (.new _ sf hl) ⟨l, _, rfl, .of upd_same, (cutL_rep rl lo hi).mono (Same.new (sf.free hl))⟩
  | lst ds =>
    cases ho
    obtain ⟨p, xs, rfl, hx, rl⟩ := rd.lst sf
    exact .inl (.inr ⟨p, xs, rfl, .of hx, fun l hl => k _ _ _ (.new _ sf hl) ⟨l, _, rfl, upd_same, (cutL_rep rl lo hi).mono (Same.new (sf.free hl))⟩⟩)
  | scr ns =>
    cases ho
    obtain ⟨p, rfl, hx⟩ := rd.scr sf
    exact .inl (.inr ⟨p, _, rfl, hx, fun l hl => k _ _ _ (.new _ sf hl) ⟨l, _, rfl, upd_same, (cutL_rep (RepL.ints ns) lo hi).mono (Same.new (sf.free hl))⟩⟩)
  | str z =>
    obtain ⟨hl, rfl⟩ := iteSome ho
    rw [rd.str]
    exact .inr ⟨z, rfl, hl, k _ _ _ .refl rfl⟩
  | _ => cases ho
def resSl (lo hi : Option Int) (a : Ar) (E : Nv) : R D := match a.get E with
  | none => .bad
  | some d => R.some (oSl d lo hi) E
def fSl (fa : Nv → R Ar) (fl fh : Nv → R (Option Int)) : Nv → R D := fun E => (fa E).bind fun a E1 => (fl E1).bind fun lo E2 => (fh E2).bind fun hi E3 => resSl lo hi a E3
theorem fe_sl {fa : Nv → R Ar} {fl fh : Nv → R (Option Int)} (hK : X.K = g.K) (h : PE X e (tSl (rSlAll X.K) (tG g W (relA g) fa) (tG g W relP fl) (tG g W relP fh))) : FE X g W e (fSl fa fl fh) := peImp h fun σ H Q ⟨ρ, G, E, F, st, q⟩ =>
  bindE st q fun a E1 v F1 H1 st1 s1 r1 q1 => bindE st1 q1 fun lo E2 lo' F2 H2 st2 s2 r2 q2 => bindE st2 q2 fun hi E3 hi' F3 H3 st3 s3 r3 q3 => by
    obtain rfl : lo = lo' := r2
    obtain rfl : hi = hi' := r3
    unfold resSl at q3
    cases z : a.get E3 with
    | none => simp only [z] at q3; exact q3.elim
    | some d =>
      simp only [z] at q3
      cases z2 : oSl d lo hi with
      | none => simp only [z2, R.some] at q3; exact q3.elim
      | some y =>
        simp only [z2, R.some] at q3
        rw [hK]
        exact oSl_ok (g := g) st3.sf (ar_ok st3 (r1.mono (s2.trans s3)) z) z2 fun w F' H' gr r => q3 w F' H' (gr.2 _ _ _ _ st3) gr.1 r
/-- a slice of a list, a new list -/
def resSlN (lo hi : Option Int) (a : Ar) (E : Nv) : R D := match a.get E with
  | some (.lst ds) => .val (.lst (cutL ds lo hi)) E
  | some (.scr ns) => .val (.lst (cutL (ns.map .int) lo hi)) E
  | _ => .bad
def fSlN (fa : Nv → R Ar) (fl fh : Nv → R (Option Int)) : Nv → R D := fun E => (fa E).bind fun a E1 => (fl E1).bind fun lo E2 => (fh E2).bind fun hi E3 => resSlN lo hi a E3
theorem fn_sl {fa : Nv → R Ar} {fl fh : Nv → R (Option Int)} (hK : X.K = g.K) (h : PE X e (tSl (rSlL X.K) (tG g W (relA g) fa) (tG g W relP fl) (tG g W relP fh))) : FN X g W e (fSlN fa fl fh) := peImp h fun σ H Q ⟨ρ, G, E, F, st, q⟩ =>
  bindN st q fun a E1 v F1 H1 st1 s1 r1 q1 => bindN st1 q1 fun lo E2 lo' F2 H2 st2 s2 r2 q2 => bindN st2 q2 fun hi E3 hi' F3 H3 st3 s3 r3 q3 => by
    obtain rfl : lo = lo' := r2
    obtain rfl : hi = hi' := r3
    unfold resSlN at q3
    cases z : a.get E3 with
    | none => simp only [z] at q3; exact q3.elim
    | some d =>
      simp only [z] at q3
      have rd := ar_ok st3 (r1.mono (s2.trans s3)) z
      rw [hK]
      cases d with
      | lst ds =>
        obtain ⟨p, xs, rfl, hx, rl⟩ := rd.lst st3.sf
        exact ⟨p, xs, rfl, .of hx, fun l hl => q3 l _ F3 _ (st3.temp hl _) (st3.fG hl) ⟨_, rfl, cutL_rep rl lo hi⟩ (Same.refl _)⟩
      | scr ns =>
        obtain ⟨p, rfl, hx⟩ := rd.scr st3.sf
        exact ⟨p, _, rfl, hx, fun l hl => q3 l _ F3 _ (st3.temp hl _) (st3.fG hl) ⟨_, rfl, cutL_rep (RepL.ints ns) lo hi⟩ (Same.refl _)⟩
      | _ => exact q3.elim

/-! ## what is walked -/
/-- a list, a tuple, a text -/
def iAny (K : PySem.W.Frag) (tl : TE) : TI := fun σ H R => tl σ H fun x H1 => (∃ a xs, x = .ref a ∧ SqL K H1 a xs ∧ R (Itl K a) H1) ∨ (∃ a xs, x = .ref a ∧ SqT K H1 a xs ∧ R (Itt K a) H1) ∨ ∃ z, x = .str z ∧ R (Its z) H1
theorem pi_any {tg l : Expr} {tl : TE} (hl : PE X l tl) : PI X tg l (iAny X.K tl) := by
  refine ⟨fun pins s σ H R I h => ?_⟩
  refine thn (hl.run pins s σ H _ I h) fun v s1 ⟨x, H1, I1, r1, q1⟩ => ?_
  rcases q1 with ⟨a, xs, e, hq, q⟩ | ⟨a, xs, e, hq, q⟩ | ⟨z, e, q⟩
  · subst e
    cases r1
    obtain ⟨its, rv, p, hz⟩ := I1.list hq
    refine wpAny_pyIter_list p.isList ?_
    refine ⟨s1.heap.objs.size, [s1.heap.objs.size], _, _, H1, rfl, I1.kept (t' := s1.toks) fun b o e => Heap.get?_push_of_some _ e, turn_list a _, ⟨_, Heap.get?_push_size _ rfl, rfl, rfl⟩, fun b hb => ?_, q⟩
    have e : b = s1.heap.objs.size := by simpa using hb
    subst e
    exact I1.fpOk (Nat.le_refl _) (I1.hok.fresh (Nat.le_refl _))
  · subst e
    cases r1
    obtain ⟨its, rv, p, hz⟩ := I1.tuple hq
    refine wpAny_pyIter_tuple (show s1.heap.IsTuple a its.toArray from p) ?_
    refine ⟨s1.heap.objs.size, [s1.heap.objs.size], _, _, H1, rfl, I1.kept (t' := s1.toks) fun b o e => Heap.get?_push_of_some _ e, turn_tuple a _, ⟨_, Heap.get?_push_size _ rfl, rfl, rfl⟩, fun b hb => ?_, q⟩
    have e : b = s1.heap.objs.size := by simpa using hb
    subst e
    exact I1.fpOk (Nat.le_refl _) (I1.hok.fresh (Nat.le_refl _))
  · subst e
    obtain ⟨t, rfl⟩ := r1
    cases ha : z.cps.all (· < 128)
    · exact wpAny_pyIter_wide ha (pi_one (tk := s1.toks) I1 _ (turn_str _ z t "str_iterator" (.inr rfl)) ⟨_, Heap.get?_push_size _ rfl, rfl, rfl⟩ q)
    · exact wpAny_pyIter_ascii ha (pi_one (tk := s1.toks) I1 _ (turn_str _ z t "str_ascii_iterator" (.inl rfl)) ⟨_, Heap.get?_push_size _ rfl, rfl, rfl⟩ q)
def itAny : D → Option (List D)
  | .lst ds => some ds
  | .tup ds => some ds
  | .scr ns => some (ns.map .int)
  | .str z => some (z.cps.toList.map fun c => .str ⟨#[c]⟩)
  | _ => none
theorem RepL.at {ds : List D} {xs : List V} {i : Nat} {x : V} : ∀ {ds : List D} {xs : List V} {i : Nat} {x : V}, RepL g F ds xs → xs[i]? = some x → ∃ d, ds[i]? = some d ∧ Rep g F d x := fun {ds xs i x} r h => by
  have hi : i < ds.length := by rw [r.length]; exact (List.getElem?_eq_some_iff.mp h).1
  obtain ⟨v, a, b⟩ := r.get (List.getElem?_eq_getElem hi)
  rw [h] at a; cases a
  exact ⟨_, List.getElem?_eq_getElem hi, b⟩
theorem walks_l {a : Addr} {ds : List D} {xs : List V} (h : SqL g.K F a xs) (r : RepL g F ds xs) : Walks g F (Itl g.K a) ds where
  goes := fun i H F2 s1 s2 hi => walk_list.goes i H (by rw [← r.length]; exact hi) ((s1.trans s2).seq h)
  stops := fun H F2 s1 s2 => by rw [r.length]; exact walk_list.stops H ((s1.trans s2).seq h)
  yields := fun i H F2 x H' s1 s2 hi y => by
    obtain ⟨e, hx⟩ := walk_list.yields i H x H' (by rw [← r.length]; exact hi) ((s1.trans s2).seq h) y
    obtain ⟨d, a, b⟩ := RepL.at (ds := ds) (xs := xs) (i := i) (x := x) r hx
    subst e
    exact ⟨d, F2, a, .refl, b.mono s1⟩
theorem walks_t {a : Addr} {ds : List D} {xs : List V} (h : SqT g.K F a xs) (r : RepL g F ds xs) : Walks g F (Itt g.K a) ds where
  goes := fun i H F2 s1 s2 hi => walk_tup.goes i H (by rw [← r.length]; exact hi) (same_t (s1.trans s2) h)
  stops := fun H F2 s1 s2 => by rw [r.length]; exact walk_tup.stops H (same_t (s1.trans s2) h)
  yields := fun i H F2 x H' s1 s2 hi y => by
    obtain ⟨e, hx⟩ := walk_tup.yields i H x H' (by rw [← r.length]; exact hi) (same_t (s1.trans s2) h) y
    obtain ⟨d, a, b⟩ := RepL.at (ds := ds) (xs := xs) (i := i) (x := x) r hx
    subst e
    exact ⟨d, F2, a, .refl, b.mono s1⟩
theorem walks_s {z : Str} : Walks g F (Its z) (z.cps.toList.map fun c => D.str ⟨#[c]⟩) where
  goes := fun i H F2 s1 s2 hi => walk_str.goes i H (by simpa using hi) trivial
  stops := fun H F2 s1 s2 => by rw [List.length_map, Array.length_toList]; exact walk_str.stops H trivial
  yields := fun i H F2 x H' s1 s2 hi y => by
    obtain ⟨e, c, hc, rfl⟩ := walk_str.yields i H x H' (by simpa using hi) trivial y
    subst e
    exact ⟨.str ⟨#[c]⟩, F2, by rw [List.getElem?_map, Array.getElem?_toList, hc]; rfl, .refl, rfl⟩
theorem walks_r {lo : Int} {n : Nat} : Walks g F (Itr lo n) ((List.range n).map fun (i : Nat) => D.int (lo + i)) where
  goes := fun i H F2 s1 s2 hi => walk_range.goes i H (by simpa using hi) trivial
  stops := fun H F2 s1 s2 => by rw [List.length_map, List.length_range]; exact walk_range.stops H trivial
  yields := fun i H F2 x H' s1 s2 hi y => by
    have hi' : i < n := by simpa using hi
    obtain ⟨e, rfl⟩ := walk_range.yields i H x H' hi' trivial y
    subst e
    exact ⟨.int (lo + i), F2, by simp [hi'], .refl, rfl⟩
/-- new pairs -/
theorem walks_pair {J : It} {n : Nat} {Gw : Hp → Prop} {fx fy : Nat → Option V} {ds : List D} (w : Walk J n Gw (YPair fx fy)) (hn : n = ds.length) (hG : ∀ H F2, Same F F2 → Same F2 H → Gw H)
    (hd : ∀ i x y, i < n → fx i = some x → fy i = some y → ∃ a b, ds[i]? = some (.tup [a, b]) ∧ Rep g F a x ∧ Rep g F b y) : Walks g F J ds where
  goes := fun i H F2 s1 s2 hi => w.goes i H (by rw [hn]; exact hi) (hG H F2 s1 s2)
  stops := fun H F2 s1 s2 => by rw [← hn]; exact w.stops H (hG H F2 s1 s2)
  yields := fun i H F2 x H' s1 s2 hi y => by
    obtain ⟨T, u, v, rfl, hT, rfl, e1, e2⟩ := w.yields i H x H' (by rw [hn]; exact hi) (hG H F2 s1 s2) y
    obtain ⟨a, b, h1, h2, h3⟩ := hd i u v (by rw [hn]; exact hi) e1 e2
    have sn : Same F2 (upd F2 T (.tup [u, v])) := Same.new (s2.free hT)
    exact ⟨_, _, h1, .new _ s2 hT, T, _, rfl, .of upd_same, ⟨u, [v], rfl, h2.mono (s1.trans sn), v, [], rfl, h3.mono (s1.trans sn), rfl⟩⟩
theorem bindI {α β : Type} {rel : Hp → L2.St → α → β → Prop} {f : Nv → R α} {k : α → Nv → R (List D)} {Q2 : It → Hp → Prop} {Q1 : β → Hp → Prop} (st : StOk g ρ G E F σ H) (h : postI g W ρ G F σ Q2 ((f E).bind k))
    (cont : ∀ a E1 b F1 H1, StOk g ρ G E1 F1 σ H1 → Same F F1 → rel F1 σ a b → postI g W ρ G F1 σ Q2 (k a E1) → Q1 b H1) : tG g W rel f σ H Q1 := by
  have mono : ∀ {F1 : Hp}, Same F F1 → ∀ {r : R (List D)}, postI g W ρ G F σ Q2 r → postI g W ρ G F1 σ Q2 r := fun {F1} s {r} h => by
    cases r with
    | val ds E' => exact fun J F' H' st q w => h J F' H' st (s.trans q) w
    | exc c fs E' => exact postX.mono s h
    | bad => exact h
  refine ⟨ρ, G, E, F, st, ?_⟩
  revert h
  cases f E with
  | val a E1 => exact fun h b F' H' st' s r => cont a E1 b F' H' st' s r (mono (r := k a E1) s h)
  | exc c fs E' => exact fun h => h
  | bad => exact fun h => h
def iAnyF (f : Nv → R D) : Nv → R (List D) := fun E => (f E).bind fun d E1 => R.some (itAny d) E1
theorem fi_any {tg : Expr} {f : Nv → R D} (hK : X.K = g.K) (h : PI X tg e (iAny X.K (tG g W (relD g) f))) : FI X g W tg e (iAnyF f) := piImp h fun σ H Q ⟨ρ, G, E, F, st, q⟩ =>
  bindI st q fun d E1 v F1 H1 st1 s1 r1 q1 => by
    rw [hK]
    cases d with
    | lst ds =>
      obtain ⟨a, xs, rfl, hx, rl⟩ := r1
      exact .inl ⟨a, xs, rfl, .of (st1.sf _ _ hx), q1 _ F1 H1 st1 (Same.refl _) (walks_l (.of hx) rl)⟩
    | tup ds =>
      obtain ⟨a, xs, rfl, hx, rl⟩ := r1
      exact .inr (.inl ⟨a, xs, rfl, same_t st1.sf hx, q1 _ F1 H1 st1 (Same.refl _) (walks_t hx rl)⟩)
    | scr ns =>
      obtain ⟨a, rfl, hx⟩ := r1
      exact .inl ⟨a, _, rfl, st1.sf.seq hx, q1 _ F1 H1 st1 (Same.refl _) (walks_l hx (RepL.ints ns))⟩
    | str z =>
      obtain rfl : v = .str z := r1
      exact .inr (.inr ⟨z, rfl, q1 _ F1 H1 st1 (Same.refl _) walks_s⟩)
    | _ => exact q1.elim
/-- the ints from lo to hi - 1 -/
def rangeD (lo : Int) (n : Nat) : List D := (List.range n).map fun (i : Nat) => D.int (lo + i)
open Classical in
noncomputable def itR : List D → Option (List D)
  | [.int j] => if B62 j then some (rangeD 0 j.toNat) else none
  | [.int i, .int j] => if B62 i ∧ B62 j then some (rangeD i (j - i).toNat) else none
  | _ => none
noncomputable def iRng (fs : Nv → R (List Ar)) : Nv → R (List D) := fun E => (fs E).bind fun as E1 => match valsOf as with
  | some ds => R.some (itR ds) E1
  | none => .bad
open Classical in
theorem fi_range1 {tg : Expr} {f : Nv → R Ar} (h : PI X tg e (iRng1 (tG g W (relAs g) (fAs [f])))) : FI X g W tg e (iRng (fAs [f])) := piImp h fun σ H Q ⟨ρ, G, E, F, st, q⟩ => by
  refine ⟨ρ, G, E, F, st, ?_⟩
  unfold iRng at q
  revert q
  cases z0 : fAs [f] E with
  | exc c fs E' => exact fun q => q
  | bad => exact fun q => q
  | val as E1 =>
    have la := fAs_len z0
    intro q vs F1 H1 st1 s1 r1
    have q : postI g W ρ G F σ Q (match valsOf as with | some ds => R.some (itR ds) E1 | none => .bad) := q
    cases z : valsOf as with
    | none => simp only [z] at q; exact q.elim
    | some ds =>
      simp only [z] at q
      have rl := valsOf_ok r1 z
      have ld : ds.length = 1 := by rw [rl.length, ← r1.length, la]; rfl
      match ds, ld with
      | [d], _ =>
        obtain ⟨x, rfl, rx⟩ : ∃ x, vs = [x] ∧ Rep g F1 d x := by
          obtain ⟨x, xs, rfl, a, b⟩ := rl
          cases (show xs = [] from b)
          exact ⟨x, rfl, a⟩
        cases d with
        | int j =>
          obtain rfl : x = .int j := rx
          have q : postI g W ρ G F σ Q (R.some (if B62 j then some (rangeD 0 j.toNat) else none) E1) := q
          by_cases hc : B62 j
          · rw [if_pos hc] at q
            exact ⟨j, rfl, hc.1, hc.2, q _ F1 H1 st1 s1 walks_r⟩
          · rw [if_neg hc] at q; exact q.elim
        | _ => exact q.elim
open Classical in
theorem fi_range2 {tg : Expr} {f f2 : Nv → R Ar} (h : PI X tg e (iRng2 (tG g W (relAs g) (fAs [f, f2])))) : FI X g W tg e (iRng (fAs [f, f2])) := piImp h fun σ H Q ⟨ρ, G, E, F, st, q⟩ => by
  refine ⟨ρ, G, E, F, st, ?_⟩
  unfold iRng at q
  revert q
  cases z0 : fAs [f, f2] E with
  | exc c fs E' => exact fun q => q
  | bad => exact fun q => q
  | val as E1 =>
    have la := fAs_len z0
    intro q vs F1 H1 st1 s1 r1
    have q : postI g W ρ G F σ Q (match valsOf as with | some ds => R.some (itR ds) E1 | none => .bad) := q
    cases z : valsOf as with
    | none => simp only [z] at q; exact q.elim
    | some ds =>
      simp only [z] at q
      have rl := valsOf_ok r1 z
      have ld : ds.length = 2 := by rw [rl.length, ← r1.length, la]; rfl
      match ds, ld with
      | [d, d2], _ =>
        obtain ⟨x, y, rfl, rx, ry⟩ : ∃ x y, vs = [x, y] ∧ Rep g F1 d x ∧ Rep g F1 d2 y := by
          obtain ⟨x, xs, rfl, a, y, ys, rfl, b, c⟩ := rl
          cases (show ys = [] from c)
          exact ⟨x, y, rfl, a, b⟩
        cases d with
        | int i =>
          cases d2 with
          | int j =>
            obtain rfl : x = .int i := rx
            obtain rfl : y = .int j := ry
            have q : postI g W ρ G F σ Q (R.some (if B62 i ∧ B62 j then some (rangeD i (j - i).toNat) else none) E1) := q
            by_cases hc : B62 i ∧ B62 j
            · rw [if_pos hc] at q
              exact ⟨i, j, rfl, ⟨hc.1.1, hc.1.2, hc.2.1, hc.2.2⟩, q _ F1 H1 st1 s1 walks_r⟩
            · rw [if_neg hc] at q; exact q.elim
          | _ => exact q.elim
        | _ => exact q.elim
/-- zip of two tuples, of two lists -/
def zipD (a b : List D) : List D := (a.zip b).map fun p => .tup [p.1, p.2]
def itZ : List D → Option (List D)
  | [.lst a, .lst b] => some (zipD a b)
  | [.tup a, .tup b] => some (zipD a b)
  | _ => none
def iZip (fs : Nv → R (List Ar)) : Nv → R (List D) := fun E => (fs E).bind fun as E1 => match valsOf as with
  | some ds => R.some (itZ ds) E1
  | none => .bad
theorem zipD_get {a b : List D} {xs ys : List V} (ra : RepL g F a xs) (rb : RepL g F b ys) (i : Nat) (x y : V) (hx : xs[i]? = some x) (hy : ys[i]? = some y) : ∃ d e, (zipD a b)[i]? = some (.tup [d, e]) ∧ Rep g F d x ∧ Rep g F e y := by
  obtain ⟨d, h1, r1⟩ := RepL.at (ds := a) (xs := xs) (i := i) (x := x) ra hx
  obtain ⟨e, h2, r2⟩ := RepL.at (ds := b) (xs := ys) (i := i) (x := y) rb hy
  refine ⟨d, e, ?_, r1, r2⟩
  unfold zipD
  rw [List.getElem?_map, List.getElem?_zip_eq_some (z := (d, e)) |>.mpr ⟨h1, h2⟩]
  rfl
theorem walk_zipT {K : PySem.W.Frag} {a b : Addr} {xs ys : List V} {n : Nat} (hn : n = min xs.length ys.length) : Walk (RZ.ItzT K a b) n (fun H => SqT K H a xs ∧ SqT K H b ys) (YPair (fun i => xs[i]?) (fun i => ys[i]?)) := by
  subst hn
  refine ⟨fun i _ hi q => ?_, fun _ q => ⟨xs, ys, q.1, q.2, by omega⟩, fun i H v H' _ q y => ?_⟩
  · have h1 : i < xs.length := by omega
    have h2 : i < ys.length := by omega
    exact ⟨xs, ys, xs[i], ys[i], q.1, q.2, by simp [h1], by simp [h2]⟩
  · obtain ⟨T, x, z, h1, h2, h3, h4, h5⟩ := y
    exact ⟨T, x, z, h1, h2, h3, h4 xs q.1, h5 ys q.2⟩
theorem fi_zip {tg : Expr} {fs : Nv → R (List Ar)} (hK : X.K = g.K) (h : PI X tg e (RZ.iZipA X.K (tG g W (relAs g) fs))) : FI X g W tg e (iZip fs) := piImp h fun σ H Q ⟨ρ, G, E, F, st, q⟩ =>
  bindI st q fun as E1 vs F1 H1 st1 s1 r1 q1 => by
    rw [hK]
    cases z : valsOf as with
    | none => simp only [z] at q1; exact q1.elim
    | some ds =>
      simp only [z] at q1
      have rl := valsOf_ok r1 z
      unfold itZ at q1
      split at q1
      · rename_i a b
        obtain ⟨x, xs, rfl, ⟨p, us, rfl, hu, ru⟩, y, ys, rfl, ⟨p', us', rfl, hu', ru'⟩, e0⟩ := rl
        cases (show ys = [] from e0)
        refine ⟨p, p', us, us', rfl, .inl ⟨.of (st1.sf _ _ hu), .of (st1.sf _ _ hu'), q1 _ F1 H1 st1 (Same.refl _) ?_⟩⟩
        exact walks_pair (walk_zip rfl) (by simp [zipD, ru.length, ru'.length]) (fun H F2 a b => ⟨.of (b _ _ (a _ _ hu)), .of (b _ _ (a _ _ hu'))⟩) fun i x y _ hx hy => zipD_get ru ru' i x y hx hy
      · rename_i a b
        obtain ⟨x, xs, rfl, ⟨p, us, rfl, hu, ru⟩, y, ys, rfl, ⟨p', us', rfl, hu', ru'⟩, e0⟩ := rl
        cases (show ys = [] from e0)
        refine ⟨p, p', us, us', rfl, .inr ⟨same_t st1.sf hu, same_t st1.sf hu', q1 _ F1 H1 st1 (Same.refl _) ?_⟩⟩
        exact walks_pair (walk_zipT rfl) (by simp [zipD, ru.length, ru'.length]) (fun H F2 a b => ⟨same_t (a.trans b) hu, same_t (a.trans b) hu'⟩) fun i x y _ hx hy => zipD_get ru ru' i x y hx hy
      · exact q1.elim

/-! ## attributes -/
def lookD : Str → List Str → List D → Option D
  | f, n :: ns, d :: ds => if f = n then some d else lookD f ns ds
  | _, _, _ => none
theorem lookD_ok {f : Str} : ∀ {ns : List Str} {ds : List D} {xs : List V} {d : D}, RepL g F ds xs → lookD f ns ds = some d → ∃ v, (ns.zip xs).lookup f = some v ∧ Rep g F d v
  | [], _, _, _, _, h => by simp [lookD] at h
  | n :: ns, [], _, _, _, h => by simp [lookD] at h
  | n :: ns, d :: ds, _, _, r, h => by
    obtain ⟨x, xs, rfl, rx, rt⟩ := r
    unfold lookD at h
    by_cases e : f = n
    · rw [if_pos e] at h; cases h
      subst e
      exact ⟨x, by simp [List.lookup], rx⟩
    · rw [if_neg e] at h
      obtain ⟨v, a, b⟩ := lookD_ok rt h
      have ne : (f == n) = false := by simpa using e
      exact ⟨v, by simp only [List.zip_cons_cons, List.lookup, ne]; exact a, b⟩
def resFld (f : Str) (a : Ar) (E : Nv) : R D := match a.get E with
  | some (.ins _ ns ds) => R.some (lookD f ns ds) E
  | _ => .bad
def fFld (f : Str) (fa : Nv → R Ar) : Nv → R D := fun E => (fa E).bind fun a E1 => resFld f a E1
theorem fe_fld {f : Str} {fa : Nv → R Ar} (hK : X.K = g.K) (hc : ∀ c, Cls g.K (g.cls c)) (hn : ∀ c, NoAttr g.K (g.cls c) f) (h : PE X e (tFld X.K (tG g W (relA g) fa) f)) : FE X g W e (fFld f fa) := peImp h fun σ H Q ⟨ρ, G, E, F, st, q⟩ =>
  bindE st q fun a E1 v F1 H1 st1 s1 r1 q1 => by
    unfold resFld at q1
    cases z : a.get E1 with
    | none => simp only [z] at q1; exact q1.elim
    | some d =>
      simp only [z] at q1
      cases d with
      | ins c ns ds =>
        simp only at q1
        cases z2 : lookD f ns ds with
        | none => simp only [z2, R.some] at q1; exact q1.elim
        | some y =>
          simp only [z2, R.some] at q1
          obtain ⟨p, dx, xs, rfl, hp, hl, rl⟩ := (ar_ok st1 r1 z).ins st1.sf
          obtain ⟨w, a1, a2⟩ := lookD_ok rl z2
          exact ⟨p, g.cls c, dx, _, w, rfl, hp, by rw [hK]; exact hc c, by rw [hK]; exact hn c, a1, q1 w F1 H1 st1 (Same.refl _) a2⟩
      | _ => exact q1.elim
def putN (f : Str) : List Str → List Str
  | [] => [f]
  | n :: ns => if n = f then n :: ns else n :: putN f ns
def putD (f : Str) (d : D) : List Str → List D → List D
  | n :: ns, x :: xs => if n = f then d :: xs else x :: putD f d ns xs
  | _, _ => [d]
theorem put_ok {f : Str} {d : D} {v : V} (rv : Rep g F d v) : ∀ {ns : List Str} {ds : List D} {xs : List V}, ns.length = xs.length → RepL g F ds xs → ∃ ys, putF f v (ns.zip xs) = (putN f ns).zip ys ∧ (putN f ns).length = ys.length ∧ RepL g F (putD f d ns ds) ys
  | [], ds, xs, hl, r => by
    have : xs = [] := List.length_eq_zero_iff.mp hl.symm
    subst this
    have : ds = [] := List.length_eq_zero_iff.mp (by rw [r.length]; rfl)
    subst this
    exact ⟨[v], rfl, rfl, v, [], rfl, rv, rfl⟩
  | n :: ns, [], xs, hl, r => by
    cases (show xs = [] from r)
    cases hl
  | n :: ns, x :: ds, _, hl, r => by
    obtain ⟨u, us, rfl, ru, rt⟩ := r
    by_cases e : n = f
    · refine ⟨v :: us, ?_, ?_, ?_⟩
      · show (if n = f then (n, v) :: ns.zip us else _) = _
        unfold putN
        rw [if_pos e, if_pos e]
        rfl
      · unfold putN; rw [if_pos e]; exact hl
      · unfold putD; rw [if_pos e]; exact ⟨v, us, rfl, rv, rt⟩
    · obtain ⟨ys, a, b, c⟩ := put_ok (f := f) (d := d) rv (ns := ns) (ds := ds) (xs := us) (by simpa using hl) rt
      refine ⟨u :: ys, ?_, ?_, ?_⟩
      · show (if n = f then _ else (n, u) :: putF f v (ns.zip us)) = _
        unfold putN
        rw [if_neg e, if_neg e, a]
        rfl
      · unfold putN; rw [if_neg e]; simp [b]
      · unfold putD; rw [if_neg e]; exact ⟨u, ys, rfl, ru, c⟩
def setFld (j : Nat) (f : Str) (d : D) (E : Nv) : R Fl := match E[j]? with
  | some s => match s.cell with
    | some (.ins c ns ds) => if ns.length < 900 then .val .nx (E.set j (s.put (.ins c (putN f ns) (putD f d ns ds)))) else .bad
    | _ => .bad
  | none => .bad
def fSetFld (j : Nat) (f : Str) (fv : Nv → R D) : Nv → R Fl := fun E => (fv E).bind fun d E1 => (fPk j E1).bind fun _ E2 => setFld j f d E2
theorem fs_setFld {j : Nat} {f : Str} {fv : Nv → R D} (hK : X.K = g.K) (hc : ∀ c, Cls g.K (g.cls c)) (hn : ∀ c, NoAttr g.K (g.cls c) f) (h : PS X st (sFld X.K (tG g W (relA g) (fPk j)) (tG g W (relD g) fv) f)) : FS X g W st (fSetFld j f fv) := psImp h fun D σ H ⟨ρ, G, E, F, st, q⟩ =>
  bindS st q fun d E1 v F1 H1 st1 s1 r1 q1 => by
    refine ⟨ρ, G, E1, F1, st1, ?_⟩
    revert q1
    cases z : fPk j E1 with
    | exc c fs E' => exact fun q1 dx F' H' st' s x => q1 dx σ F' H' st' s x
    | bad => exact fun q1 => q1
    | val a E2 =>
      obtain ⟨rfl, rfl⟩ := fPk_pk z
      intro q1 x F2 H2 st2 s2 hx
      have hx : σ[j]? = some (some x) := hx
      have q1 : postS g W ρ G F1 D (setFld j f d E2) := q1
      unfold setFld at q1
      cases z : E2[j]? with
      | none => simp only [z] at q1; exact q1.elim
      | some s =>
        simp only [z] at q1
        cases c : s.cell with
        | none => simp only [c] at q1; exact q1.elim
        | some cd =>
          simp only [c] at q1
          cases cd with
          | ins k ns ds =>
            simp only at q1
            by_cases hl : ns.length < 900
            · rw [if_pos hl] at q1
              obtain ⟨p, y, fp, _, o, hp, dx, xs, rfl, l1, rl⟩ := st2.at z c
              rw [hx] at y
              cases y
              obtain ⟨ys, a1, a2, a3⟩ := put_ok (f := f) (r1.mono s2) l1 rl
              refine ⟨p, g.cls k, dx, _, rfl, hp, by rw [hK]; exact hc k, by rw [hK]; exact hn k, ?_, ?_⟩
              · rw [List.length_zip]; omega
              · exact q1 σ F2 _ (st2.write z c hx ⟨dx, ys, by rw [a1], a2, a3⟩) s2
            · rw [if_neg hl] at q1; exact q1.elim
          | _ => exact q1.elim
end

end FL

namespace FL
open PySem PySem.Spec PyProof.Rows L2

/-! ## methods of lists -/
theorem meets_extendT (S it : Addr) (c₀ : Nat) (its0 items : Array Value) (o : Obj) (n : Nat) (hlong : ¬ (!its0.isEmpty && Builtin.List.listTooLong (its0.size + items.size)) = true) (hs1 : its0.size ≤ sizeLine) (hs2 : its0.size + items.size ≤ sizeLine + 1) :
    Meets (Builtin.«list.extend» ⟨[.ref S, .ref it], []⟩) (fun _ R s => s.heap.get? S = some { cls := .type "list", dict := none, data := .seq its0 c₀, slots := #[] } ∧ s.heap.get? it = some o ∧ o.cls = .type "tuple" ∧ o.data = .seq items n ∧
      R (.ok (.ret Value.none)) { s with heap := s.heap.update S (Obj.mapSeq fun x => x ++ items), toks := s.toks }) :=
  .of_wp fun prog w A R s h => by
    obtain ⟨hS, ho, hc, hd, hR⟩ := h
    have hz' : (its0 ++ items).size ≤ sizeLine + 1 := by rw [Array.size_append]; exact hs2
    show wpAny _ A.in1 (Builtin.List.listExtendWith (.ref S) (.ref it) .none) _ _ s
    unfold Builtin.List.listExtendWith
    refine wpAny_bind (wpAny_typeOf ⟨o, ho, hc⟩ ?_)
    have h1 : (Builtin.List.listSameRef (.ref S) (.ref it) || Value.type "tuple" == Value.type "list" || Value.type "tuple" == Value.type "tuple") = true := by simp
    simp only [h1, if_true]
    refine wpAny_bind ?_
    unfold Builtin.List.listItems
    refine wpAny_bind (wpAny_seqItems ho hd (wpAny_pure ?_))
    refine wpAny_bind ?_
    refine wpAny_bind (wpAny_seqItems hS rfl (wpAny_pure ?_))
    rw [if_neg hlong]
    show wpAny _ A.in1 (updateSeq S (· ++ items) >>= fun _ => ret .none) _ _ s
    refine wpAny_bind (wpAny_updateSeq hS rfl (hz := hs1) (_hz' := hz') ?_)
    exact wpAny_pure ⟨_, rfl, hR⟩
def rExtendT (K : PySem.W.Frag) : V → List V → Hp → VK → Prop := fun x vs H Q => ∃ l b xs zs, x = .ref l ∧ vs = [.ref b] ∧ H l = some (.lst xs) ∧ SqT K H b zs ∧ xs.length + zs.length ≤ sizeLine ∧ Q .non (upd H l (.lst (xs ++ zs)))
theorem mt_extendT {X : Cx} : MtR X "list.extend" (rExtendT X.K) := by
  intro pins s σ H x vs v us Q I rx rv h
  obtain ⟨l, b, xs, zs, rfl, rfl, hH, hB, hz, q⟩ := h
  cases rx
  obtain ⟨u, rfl, ru⟩ := rv.one
  cases ru
  obtain ⟨z, its, n, r, hl, e⟩ := I.lstM hH
  obtain ⟨its2, r2, ⟨o, ho, hc, n2, hd⟩, hz2⟩ := I.tuple hB
  have l2 := r2.length
  have hsz : its.toArray.size + its2.toArray.size ≤ sizeLine := by rw [List.size_toArray, List.size_toArray]; omega
  have hlong : ¬ (!its.toArray.isEmpty && Builtin.List.listTooLong (its.toArray.size + its2.toArray.size)) = true := by
    rw [notLongL hsz, Bool.and_false]
    exact Bool.false_ne_true
  refine call_meets F.slot_list_extend ⟨_, e, rfl⟩ F.entry_list_extend (F.args_list_extend_2 _ _)
    (meets_extendT l b n its.toArray its2.toArray o n2 hlong (by rw [List.size_toArray]; omega) (by omega)) ⟨e, ho, hc, hd, ?_⟩
  refine ⟨.non, _, I.lset (its' := its ++ its2) hH e (by simp) (r.append r2) ?_, rfl, q⟩
  rw [List.length_append]
  omega
def mAppend : D → List D → Option (D × D)
  | .lst ds, [d] => if ds.length < sizeLine then some (.non, .lst (ds ++ [d])) else none
  | _, _ => none
def mExtend : D → List D → Option (D × D)
  | .lst ds, [.lst es] => if ds.length + es.length ≤ sizeLine then some (.non, .lst (ds ++ es)) else none
  | .lst ds, [.tup es] => if ds.length + es.length ≤ sizeLine then some (.non, .lst (ds ++ es)) else none
  | _, _ => none
def mPop : D → List D → Option (D × D)
  | .lst ds, [] => match ds[ds.length - 1]? with
    | some d => some (d, .lst ds.dropLast)
    | none => none
  | _, _ => none
def mInsert : D → List D → Option (D × D)
  | .lst ds, [.int i, d] => if ds.length < sizeLine ∧ 0 ≤ i ∧ i ≤ 1000000 then some (.non, .lst (ds.take i.toNat ++ [d] ++ ds.drop i.toNat)) else none
  | _, _ => none
def mPopAt : D → List D → Option (D × D)
  | .lst ds, [.int i] => if 0 ≤ i ∧ i ≤ 1000000 then (match ds[i.toNat]? with
    | some d => some (d, .lst (ds.eraseIdx i.toNat))
    | none => none) else none
  | _, _ => none
section
variable {g : Gm}
theorem RepL.eraseIdx {F : Hp} : ∀ {ds : List D} {vs : List V} (i : Nat), RepL g F ds vs → RepL g F (ds.eraseIdx i) (vs.eraseIdx i)
  | [], _, _, h => by cases (show _ = [] from h); exact rfl
  | _ :: _, _, 0, h => by
    obtain ⟨x, xs, rfl, r, t⟩ := h
    exact t
  | _ :: _, _, i + 1, h => by
    obtain ⟨x, xs, rfl, r, t⟩ := h
    exact ⟨x, _, rfl, r, RepL.eraseIdx i t⟩
theorem mtok_insert : MtOk g (fun x vs H Q => ∃ (l : Addr) (xs : List V) (i : Int) (y : V), x = .ref l ∧ vs = [.int i, y] ∧ H l = some (.lst xs) ∧ xs.length < sizeLine ∧ 0 ≤ i ∧ i < 2 ^ 63 ∧ Q .non (upd H l (.lst (xs.take i.toNat ++ [y] ++ xs.drop i.toNat)))) mInsert := by
  intro F H p ob vs d z d' ds Q sf fp hp ow r ho k
  unfold mInsert at ho
  split at ho
  · rename_i es i x
    obtain ⟨⟨hl, h0, h1⟩, e⟩ := iteSome ho
    cases e
    obtain ⟨xs, rfl, rl⟩ := ow
    obtain ⟨u, us, rfl, ru, y, ys, rfl, ry, e0⟩ := r
    cases (show ys = [] from e0)
    obtain rfl : u = .int i := ru
    exact ⟨p, xs, i, y, rfl, rfl, hp, by rw [← rl.length]; exact hl, h0, by omega, k _ _ ⟨_, rfl, ((rl.take _).append (RepL.cons ry RepL.nil)).append (rl.drop _)⟩ rfl⟩
  · cases ho
theorem mtok_popAt : MtOk g rPopAt mPopAt := by
  intro F H p ob vs d z d' ds Q sf fp hp ow r ho k
  unfold mPopAt at ho
  split at ho
  · rename_i es i
    split at ho
    · rename_i hi
      split at ho
      · rename_i x hx
        cases ho
        obtain ⟨xs, rfl, rl⟩ := ow
        obtain ⟨u, us, rfl, ru, e0⟩ := r
        cases (show us = [] from e0)
        obtain rfl : u = .int i := ru
        obtain ⟨v, a, b⟩ := rl.get hx
        have hlt := (List.getElem?_eq_some_iff.mp a).1
        refine ⟨p, xs, i, i.toNat, v, rfl, rfl, hp, by omega, by omega, ?_, a, k _ _ ⟨_, rfl, rl.eraseIdx _⟩ b⟩
        have e1 : ¬ i < 0 := by omega
        have e2 : (decide (0 ≤ i) && decide (i < (xs.length : Int))) = true := by simp only [Bool.and_eq_true, decide_eq_true_eq]; omega
        unfold seqIndex?
        simp only [if_neg e1, e2, if_true]
      · cases ho
    · cases ho
  · cases ho
theorem mtok_append : MtOk g rAppend mAppend := by
  intro F H p ob vs d z d' ds Q sf fp hp ow r ho k
  unfold mAppend at ho
  split at ho
  · rename_i es x
    obtain ⟨hl, e⟩ := iteSome ho
    cases e
    obtain ⟨xs, rfl, rl⟩ := ow
    obtain ⟨y, ys, rfl, ry, e0⟩ := r
    cases (show ys = [] from e0)
    exact ⟨p, xs, y, rfl, rfl, hp, by rw [← rl.length]; exact hl, k _ _ ⟨_, rfl, rl.append ⟨y, [], rfl, ry, rfl⟩⟩ rfl⟩
  · cases ho
def rExtA (K : PySem.W.Frag) : V → List V → Hp → VK → Prop := fun x xs H Q => rExtend x xs H Q ∨ rExtendT K x xs H Q
theorem mt_extendA {X : Cx} : MtR X "list.extend" (rExtA X.K) := MtR.or mt_extend mt_extendT
theorem mtok_extend : MtOk g (rExtA g.K) mExtend := by
  intro F H p ob vs d z d' ds Q sf fp hp ow r ho k
  unfold mExtend at ho
  split at ho
  · rename_i es fs
    obtain ⟨hl, e⟩ := iteSome ho
    cases e
    obtain ⟨xs, rfl, rl⟩ := ow
    obtain ⟨y, ys, rfl, ⟨q, us, rfl, hq, ru⟩, e0⟩ := r
    cases (show ys = [] from e0)
    exact .inl ⟨p, q, xs, us, rfl, rfl, hp, sf _ _ hq, by rw [← rl.length, ← ru.length]; exact hl, k _ _ ⟨_, rfl, rl.append ru⟩ rfl⟩
  · rename_i es fs
    obtain ⟨hl, e⟩ := iteSome ho
    cases e
    obtain ⟨xs, rfl, rl⟩ := ow
    obtain ⟨y, ys, rfl, ⟨q, us, rfl, hq, ru⟩, e0⟩ := r
    cases (show ys = [] from e0)
    exact .inr ⟨p, q, xs, us, rfl, rfl, hp, same_t sf hq, by rw [← rl.length, ← ru.length]; exact hl, k _ _ ⟨_, rfl, rl.append ru⟩ rfl⟩
  · cases ho
theorem mtok_pop : MtOk g rPop mPop := by
  intro F H p ob vs d z d' ds Q sf fp hp ow r ho k
  unfold mPop at ho
  split at ho
  · rename_i es
    split at ho
    · rename_i x hx
      cases ho
      obtain ⟨xs, rfl, rl⟩ := ow
      cases (show vs = [] from r)
      obtain ⟨v, a, b⟩ := rl.get hx
      exact ⟨p, xs, v, rfl, rfl, hp, by rw [← rl.length]; exact a, k _ _ ⟨_, rfl, rl.dropLast⟩ b⟩
    · cases ho
  · cases ho
end

/-! ## instances -/
section
variable {g : Gm} {ρ : Nat → Addr} {G F H : Hp} {E : Nv} {σ : L2.St} {W : WX} {X : Cx} {e : Expr}
theorem StOk.junk {p : Addr} (st : StOk g ρ G E F σ H) (h : H p = none) (o : HO) : StOk g ρ G E F σ (upd H p o) := (st.temp h o).untemp (st.fG h)
theorem StOk.push {p : Addr} {o : HO} {d : D} (st : StOk g ρ (upd G p o) E F σ H) (gn : G p = none) (ow : OwnO g F d o) : StOk g ρ G (E ++ [.own d]) F (σ ++ [some (.ref p)]) H := by
  have s1 : StOk g ρ (upd G p o) (E ++ [.no]) F (σ ++ [none]) H := st.reslot (by simp [st.len]) fun i s h => by
    by_cases hi : i < E.length
    · rw [List.getElem?_append_left hi] at h
      exact .inl ⟨h, List.getElem?_append_left (by rw [← st.len]; exact hi)⟩
    · rw [List.getElem?_append_right (by omega)] at h
      have : s ∈ [Sl.no] := List.mem_of_getElem? h
      exact .inr (.inl (by simpa using this))
  have s2 := s1.take (i := E.length) gn ow
  have e1 : (E ++ [Sl.no]).set E.length (.own d) = E ++ [.own d] := by simp
  have e2 : (σ ++ [none]).set E.length (some (.ref p)) = σ ++ [some (.ref p)] := by rw [st.len]; simp
  rw [e1, e2] at s2
  exact s2
theorem StOk.popSlot {E2 : Nv} {x : Option V} {n : Nat} (st : StOk g ρ G E2 F (σ ++ [x]) H) (hn : n = σ.length) : StOk g ρ G (E2.take n) F σ H := st.reslot (by rw [List.length_take, st.len, List.length_append]; simp; omega) fun i s h => by
  have hi : i < n := by
    have := (List.getElem?_eq_some_iff.mp h).1
    rw [List.length_take] at this
    omega
  rw [List.getElem?_take_of_lt hi] at h
  exact .inl ⟨h, (List.getElem?_append_left (by omega)).symm⟩
theorem ArsOk.push {x : Option V} : ∀ {as : List Ar} {vs : List V}, ArsOk g F σ as vs → ArsOk g F (σ ++ [x]) as vs
  | [], _, h => h
  | a :: as, _, ⟨v, vs, e, r, t⟩ => ⟨v, vs, e, by
    cases a with
    | v d => exact r
    | pk i =>
      have r : σ[i]? = some (some v) := r
      show (σ ++ [x])[i]? = some (some v)
      rw [List.getElem?_append_left (List.getElem?_eq_some_iff.mp r).1]
      exact r, t.push⟩
def resMk (c : Nat) (fn : Fn) (ars : List Ar) (E : Nv) : R D := match resC fn (.pk E.length :: ars) (E ++ [.own (.ins c [] [])]) with
  | .val .non E2 => match E2[E.length]? with
    | some (.own d) => .val d (E2.take E.length)
    | _ => .bad
  | .exc k f E2 => .exc k f (E2.take E.length)
  | _ => .bad
def fMake (c : Nat) (fn : Fn) (fs : Nv → R (List Ar)) : Nv → R D := fun E => (fs E).bind fun as E1 => resMk c fn as E1
def tMakeS (C : Addr) (sp : Sp) (Ew : L2.St → XK) (t : TA) : TE := fun σ H Q => t σ H fun vs H1 => ∀ x dx, H1 x = none → H1 dx = none → dx ≠ x →
  sp (.ref x :: vs) (upd (upd H1 dx (.own x)) x (.ins C dx [])) (fun v H2 => v = .non ∧ Q (.ref x) H2) (Ew σ)
theorem run_makeS {CX : CXT} {k : Nat} {f C : Addr} {fd : FuncData} {ps : List Str} {sp : Sp} {Ew : L2.St → XK} {pins : List (Addr × Obj)} {s : Shared} {Q : VK} {us : List Value} {vs : List V} (M : Mk X.K C f) (Fo : FnOk X.prog X.w X.K X.mg X.base CX k f fd ps sp) (hr : Room (k + 1) X.A) (hb : Binds X.K fd ps [])
    (hx : PassesAt CX X σ (Ew σ)) (I : Inv X pins σ H s) (r : Vals vs us)
    (h : ∀ x dx, H x = none → H dx = none → dx ≠ x → sp (.ref x :: vs) (upd (upd H dx (.own x)) x (.ins C dx [])) (fun v H2 => v = .non ∧ Q (.ref x) H2) (Ew σ)) :
    wpAny (model X.prog X.w) X.A (call (.ref C) us) (EP X pins σ Q) X.xe s := by
  have hq := h (s.heap.objs.size + 1) s.heap.objs.size (I.hok.fresh (Nat.le_succ _)) (I.hok.fresh (Nat.le_refl _)) (Nat.ne_of_lt (Nat.lt_succ_self _))
  have I2 := Inv.made (C := C) I
  have r2 : Vals (V.ref (s.heap.objs.size + 1) :: vs) (Value.ref (s.heap.objs.size + 1) :: us) := .cons rfl r
  have hl : (Value.ref (s.heap.objs.size + 1) :: us).length = ps.length := by
    have e := r2.length
    rw [Fo.len _ _ _ _ hq] at e
    exact e.symm
  have b := hb _ (Value.ref (s.heap.objs.size + 1) :: us) I2.kIn (by rw [List.append_nil]; exact hl)
  rw [List.append_nil] at b
  refine wpAny_call (make_map (f := f) I.kIn M.makes M.init (beq_iff_eq.mp M.fn) (codeAny_mono (Fo.run _ X.stack _ _ ⟨Value.ref (s.heap.objs.size + 1) :: us, []⟩ (Value.ref (s.heap.objs.size + 1) :: us) _ _ (Ew σ) (hr.make C us [])
    (I2.env0.make C us []) b r2 hq) fun r s' hq' => ?_))
  cases r with
  | error e => exact hx pins _ _ e s' I2 hq'
  | ok fl =>
    cases fl with
    | ret u =>
      obtain ⟨v, H', I3, rv, ev, q3⟩ := I2.after hq'
      subst ev
      exact ⟨rv, ⟨V.ref (s.heap.objs.size + 1), H', I3, rfl, q3⟩⟩
    | next => exact False.elim hq'
    | brk => exact False.elim hq'
    | cont => exact False.elim hq'
theorem pe_makeS {CX : CXT} {k : Nat} {f C : Addr} {fd : FuncData} {ps : List Str} {sp : Sp} {Ew : L2.St → XK} {x : Str} {p pos : Pos} {es : List Expr} {t : TA} (M : Mk X.K C f) (Fo : FnOk X.prog X.w X.K X.mg X.base CX k f fd ps sp) (hr : Room (k + 1) X.A) (hg : Gl X x) (hm : X.mg x = some (.ref C)) (hb : Binds X.K fd ps []) (hx : ∀ σ, PassesAt CX X σ (Ew σ))
    (ha : PA X (e :: es) t) (hdb : (x == ("__debug__" : Str)) = false := by decide) (he : starEach (e :: es) X.env = (false, eval e X.env) :: starEach es X.env := by rfl) (hpl : (backTo pos (starEach es X.env)).any (·.1) = false := by rfl) :
    PE X (.Call (.Name x p) (e :: es) [] pos) (tMakeS C sp Ew t) := by
  refine ⟨fun pins s σ H Q I h => ?_⟩
  refine wpAny_Call_Name_kw (ld_glob I hg hm ?_ hdb)
  refine PySem.W.callWith_K (h₀ := X.base) I.ok.mod.kin M.kp (thn (ha.run pos pins s σ H _ I h) fun us s1 ⟨vs, H1, I1, r, q⟩ => ⟨I1.kIn, ?_⟩) he hpl
  exact run_makeS M Fo hr hb (hx σ) I1 r q
theorem resMk_ok {c n : Nat} {fn : Fn} {ars : List Ar} {vs : List V} {Q : VK} (st : StOk g ρ G E F σ H) (ra : ArsOk g F σ ars vs) (hn : vs.length + 1 = n) (q : postN g W ρ G F σ Q (resMk c fn ars E)) :
    ∀ x dx, H x = none → H dx = none → dx ≠ x → spF g n fn (.ref x :: vs) (upd (upd H dx (.own x)) x (.ins (g.cls c) dx [])) (fun v H2 => v = .non ∧ Q (.ref x) H2) (WE W σ) := by
  intro x dx hx hdx ne
  have hx' : (upd H dx (.own x)) x = none := by rw [upd_ne (Ne.symm ne)]; exact hx
  have st1 := (st.junk hdx (.own x)).temp hx' (.ins (g.cls c) dx [])
  have gx := st.fG hx
  have st2 := st1.push (d := .ins c [] []) gx ⟨dx, [], rfl, rfl, rfl⟩
  have hl : E.length = σ.length := st.len
  have ra2 : ArsOk g F (σ ++ [some (.ref x)]) (.pk E.length :: ars) (.ref x :: vs) := ⟨_, _, rfl, by show (σ ++ [some (V.ref x)])[E.length]? = _; rw [hl]; simp, ra.push⟩
  have key : spF g n fn (.ref x :: vs) (upd (upd H dx (.own x)) x (.ins (g.cls c) dx [])) (fun v H2 => v = .non ∧ Q (.ref x) H2) (WE (fun cls d _ H => W cls d σ H) (σ ++ [some (.ref x)])) := by
    refine resC_ok (W := fun cls d _ H => W cls d σ H) st2 ra2 (by simpa using hn) ?_
    unfold resMk at q
    revert q
    cases resC fn (.pk E.length :: ars) (E ++ [.own (.ins c [] [])]) with
    | bad => exact fun q => q
    | exc k f E2 => exact fun q d' F' H' st' s xr => q d' F' H' (st'.popSlot hl) s xr
    | val d E2 =>
      cases d with
      | non =>
        simp only
        cases z : E2[E.length]? with
        | none => exact fun q => q.elim
        | some s =>
          cases s with
          | own d' =>
            intro q v F' H' st' ss r
            have lk : (σ ++ [some (V.ref x)])[E.length]? = some (some (.ref x)) := by rw [hl]; simp
            obtain ⟨p, y, f1, g1, o, hp, ow⟩ := st'.at z rfl
            rw [lk] at y
            cases y
            obtain ⟨st3, gn, ow'⟩ := st'.give z rfl lk hp
            have st4 := st3.popSlot hl
            have e3 : (E2.set E.length Sl.no).take E.length = E2.take E.length := by
              rw [List.take_set_of_le (Nat.le_refl _)]
            rw [e3] at st4
            exact ⟨r, q x o F' H' st4 gn ow' ss⟩
          | _ => exact fun q => q.elim
      | _ => exact fun q => q.elim
  exact key
theorem fn_make {c n : Nat} {fn : Fn} {fs : List (Nv → R Ar)} (h : PE X e (tMakeS (g.cls c) (spF g n fn) (WE W) (tG g W (relAs g) (fAs fs)))) (hn : fs.length + 1 = n) : FN X g W e (fMake c fn (fAs fs)) := peImp h fun σ H Q ⟨ρ, G, E, F, st, q⟩ =>
  bindAN st q fun a E1 b F1 H1 la st1 s1 r1 q1 => resMk_ok st1 r1 (by rw [← r1.length, la, hn]) q1

/-! ## an own == -/
def rEqI (C : Addr) (sp : Sp) (K : PySem.W.Frag) : R2 := fun x y H Q => ∃ a dx fs t, x = .ref a ∧ H a = some (.ins C dx fs) ∧ TyX K H y t ∧ PySem.W.notFirst K C t = true ∧ sp [x, y] H (fun v H' => ∃ k, v = .bl k ∧ Q (.bl k) H') E0
theorem op_eqI {C f : Addr} {fd : FuncData} {ps : List Str} {n : Nat} {sp : Sp} (Fo : FnOk X.prog X.w X.K X.mg X.base (L2.CX X.prog X.w) n f fd ps sp)
    (hs : PySem.W.findIn X.K (.ref C) "__eq__" = some (some (.ref f))) (hf : PySem.W.isFn X.K (.ref f) = true) (hb : Binds X.K fd ps []) (hr : Room n X.A) : OpR X (compareOp .Eq) (rEqI C sp X.K) := by
  intro pins s σ H x y v u Q I rx ry h
  obtain ⟨a, dx, fs, t, rfl, ha, ty, nf, hsp⟩ := h
  cases rx
  show wpAny (model X.prog X.w) X.A (richCompare .Eq (.ref a) u) (EP X pins σ Q) X.xe s
  obtain ⟨mA, J, _⟩ := ins_get I.hok ha
  obtain ⟨od, J, _⟩ := J.look
  obtain ⟨m, hF⟩ := I.fr
  obtain ⟨P, Z, hP, _⟩ := kit_of I ry ty
  have hl := Fo.len _ _ _ _ hsp
  have r2 : Vals [V.ref a, y] [Value.ref a, u] := .cons rfl (.cons ry .nil)
  -- what comes back is True or False
  refine PySem.W.cmp_K (op := .Eq) (tb := t) hr.units0 hF I.ok.mod.kin J (Z.ty _ _ I.kIn hP) nf hs hf ?_
  refine wpAny_call (codeAny_mono (Fo.run X.A X.stack s H ⟨[.ref a, u], []⟩ [.ref a, u] [.ref a, y] _ E0 hr I.env0 (by
    have := hb s [.ref a, u] I.kIn (by simpa using hl)
    simpa using this) r2 hsp) fun r s' hq => ?_)
  cases r with
  | error e => exact (passL pins σ H s e s' I hq)
  | ok fl =>
    cases fl with
    | ret w =>
      obtain ⟨z, H', I', rz, k, ez, qz⟩ := I.after hq
      subst ez
      cases rz
      exact ⟨.bl k, H', I', rfl, qz⟩
    | next => exact False.elim hq
    | brk => exact False.elim hq
    | cont => exact False.elim hq
/-- no class is a subclass of another one -/
def Apart (g : Gm) (N : Nat) : Prop := ∀ c c', c < N → c' < N → c ≠ c' → PySem.W.subIn g.K (.ref (g.cls c')) (.ref (g.cls c)) = some false
def eqKind (N c : Nat) : D → Bool
  | .ins c' _ _ => c' == c || (decide (c < N) && decide (c' < N))
  | x => (tyName x).isSome
def resEq (N c : Nat) (fn : Fn) (a b : Ar) (E : Nv) : R D := match a.get E, b.get E with
  | some (.ins c1 _ _), some y => if c1 = c ∧ eqKind N c y = true then (resC fn [a, b] E).nox.bind fun d E2 => match asB d with
    | some k => .val (.bl k) E2
    | none => .bad else .bad
  | _, _ => .bad
def fEqI (N c : Nat) (fn : Fn) (fa fb : Nv → R Ar) : Nv → R D := fun E => (fa E).bind fun a E1 => (fb E1).bind fun b E2 => resEq N c fn a b E2
theorem eqKind_ok {N c : Nat} {y : D} {u : V} (hI : ∀ c, InsTy g c) (hA : Apart g N) (sf : Same F H) (r : RepH g F H y u) (h : eqKind N c y = true) : ∃ t, TyX g.K H u t ∧ PySem.W.notFirst g.K (g.cls c) t = true := by
  have base : ∀ t, isIns y = false → tyName y = some t → ∃ t, TyX g.K H u t ∧ PySem.W.notFirst g.K (g.cls c) t = true := fun t hi ht => by
    obtain ⟨h1, h2⟩ := tyx_of sf r hi ht
    refine ⟨_, h1, ?_⟩
    unfold PySem.W.notFirst
    rw [sub_own t h2]
    simp
  cases y with
  | ins c' ns ds =>
    obtain ⟨a, dx, xs, rfl, q, _⟩ := r.ins sf
    obtain ⟨cl, ha, hn, htk, hm, _, _, _⟩ := hI c'
    refine ⟨_, .base (.ins q cl ha hn htk hm), ?_⟩
    unfold PySem.W.notFirst
    by_cases e : c' = c
    · subst e
      simp
    · have h : c < N ∧ c' < N := by simpa [eqKind, e] using h
      rw [hA c c' h.1 h.2 (fun z => e z.symm)]
      simp
  | _ =>
    unfold eqKind at h
    obtain ⟨t, ht⟩ := Option.isSome_iff_exists.mp h
    exact base t rfl ht
theorem le_eqI {N c : Nat} {fn : Fn} {fa fb : Nv → R Ar} {Q : VK} (hI : ∀ c, InsTy g c) (hA : Apart g N) (h : tG g W (relD g) (fEqI N c fn fa fb) σ H Q) : tOp (rEqI (g.cls c) (spF g 2 fn) g.K) (tG g W (relA g) fa) (tG g W (relA g) fb) σ H Q := by
  obtain ⟨ρ, G, E, F, st, q⟩ := h
  refine bindE st q fun x E1 v F1 H1 st1 s1 r1 q1 => ?_
  refine bindE st1 q1 fun y E2 u F2 H2 st2 s2 r2 q2 => ?_
  unfold resEq at q2
  cases z1 : x.get E2 with
  | none => simp only [z1] at q2; exact q2.elim
  | some d =>
    cases z2 : y.get E2 with
    | none => simp only [z1, z2] at q2; cases d <;> exact q2.elim
    | some e =>
      simp only [z1, z2] at q2
      cases d with
      | ins c1 ns ds =>
        simp only at q2
        by_cases hc : c1 = c ∧ eqKind N c e = true
        · rw [if_pos hc] at q2
          obtain ⟨rfl, hk⟩ := hc
          have rx := r1.mono s2
          obtain ⟨p, dx, xs, rfl, hp, _⟩ := (ar_ok st2 rx z1).ins st2.sf
          obtain ⟨t, ty, nf⟩ := eqKind_ok hI hA st2.sf (ar_ok st2 r2 z2) hk
          refine ⟨p, dx, _, t, rfl, hp, ty, nf, ?_⟩
          refine resC_ok (W := W0) (ars := [x, y]) st2 ⟨_, _, rfl, rx, _, _, rfl, r2, rfl⟩ rfl ?_
          revert q2
          cases resC fn [x, y] E2 with
          | bad => exact fun q => q
          | exc k f E' => exact fun q => q.elim
          | val d E' =>
            intro q v F' H' st' ss r
            have q : post g W (relD g) ρ G F2 σ Q (match asB d with | some k => .val (.bl k) E' | none => .bad) := q
            cases d with
            | bl k =>
              obtain rfl : v = .bl k := r
              exact ⟨k, rfl, q _ F' H' st' ss rfl⟩
            | _ => exact q.elim
        · rw [if_neg hc] at q2; exact q2.elim
      | _ => exact q2.elim
theorem fe_eqI {N c : Nat} {fn : Fn} {fa fb : Nv → R Ar} (hI : ∀ c, InsTy g c) (hA : Apart g N) (h : PE X e (tOp (rEqI (g.cls c) (spF g 2 fn) g.K) (tG g W (relA g) fa) (tG g W (relA g) fb))) : FE X g W e (fEqI N c fn fa fb) := peImp h fun _ _ _ q => le_eqI hI hA q
theorem ft_eqI {N c : Nat} {fn : Fn} {fa fb : Nv → R Ar} (hI : ∀ c, InsTy g c) (hA : Apart g N) (h : PT X e (tTest (tOp (rEqI (g.cls c) (spF g 2 fn) g.K) (tG g W (relA g) fa) (tG g W (relA g) fb)))) : FT X g W e (fTest (fEqI N c fn fa fb)) := ptImp h fun _ _ _ q => le_test (fun _ _ _ => le_eqI hI hA) q
end

/-! ## enumerate -/
end FL
namespace PySem
open Sem (wp)
open AutoSeq1 (wpAny_loadPart')
theorem fl_meets_enumerate_newT (l : Addr) (items : Array Value) (n : Nat) (dct : Option Addr) (sl : Array (Option Value)) :
    Meets (Builtin.«enumerate.__new__» ⟨[.type "enumerate", .ref l], []⟩) (fun _ R s => s.heap.get? l = some { cls := .type "tuple", dict := dct, data := .seq items n, slots := sl } ∧
      R (.ok (.ret (.ref (s.heap.push { cls := .type "tuple_iterator", data := .fields #[.ref l, .int 0 0] }).objs.size)))
        { s with heap := (s.heap.push { cls := .type "tuple_iterator", data := .fields #[.ref l, .int 0 0] }).push { cls := .type "enumerate", data := .fields #[.none, .bool false, .ref s.heap.objs.size, rawInt 0, .none, .none] } }) :=
  .of_wp fun prog w A R s h => by
    obtain ⟨hp, g, d, tk, os⟩ := s; obtain ⟨hl, h⟩ := h
    have hsub := sub_enumerate
    have hL : Heap.IsTuple (Shared.heap ⟨hp, g, d, tk, os⟩) l items := ⟨_, hl, rfl, n, rfl⟩
    wp_walk using wpAny_loadPart' hl
    refine wpAny_stack_any fun st => wpAny_pure ?_
    split
    · rename_i c _ _ _ _ _
      cases (c == Value.type "enumerate")
      · wp_walk using wpAny_loadPart' hl, wpAny_pyIter_tuple hL
        exact ⟨_, rfl, h⟩
      · wp_walk using wpAny_loadPart' hl, wpAny_pyIter_tuple hL
        exact ⟨_, rfl, h⟩
    · wp_walk using wpAny_loadPart' hl, wpAny_pyIter_tuple hL
      exact ⟨_, rfl, h⟩
theorem fl_call_enumerate_tuple {prog : Program} {w : World} {A : Around} {E : Value → Shared → Prop} {s : Shared} {l : Addr} {items : Array Value} {Q : Value → Shared → Prop} (hL : s.heap.IsTuple l items)
    (h : ∀ h', IsEnum h' (s.heap.objs.size + 1) s.heap.objs.size 0 .none → h'.IsTupleIter s.heap.objs.size l 0 → h'.objs.size = s.heap.objs.size + 2 →
      (∀ b o, s.heap.get? b = some o → h'.get? b = some o) → Q (.ref (s.heap.objs.size + 1)) { s with heap := h' }) :
    wpAny (model prog w) A (call (.type "enumerate") [.ref l]) Q E s := by
  obtain ⟨⟨c, dct, dt, sl⟩, hl, hc, n, hd⟩ := hL
  replace hc : c = .type "tuple" := hc
  replace hd : dt = .seq items n := hd
  subst hc hd
  refine callType_new F.called_enumerate (by decide) (F.typeCall_enumerate_1 _) (F.newCall_enumerate_1 _) (fun obj => F.args_object_init_2 obj _) F.entry_enumerate_new
    (fl_meets_enumerate_newT l items n dct sl) ⟨hl, ?_⟩
  have hz : (s.heap.push { cls := .type "tuple_iterator", data := .fields #[.ref l, .int 0 0] }).objs.size = s.heap.objs.size + 1 := Heap.size_push ..
  show _ ∧ _
  rw [hz]
  have he : IsEnum ((s.heap.push { cls := .type "tuple_iterator", data := .fields #[.ref l, .int 0 0] }).push
      { cls := .type "enumerate", data := .fields #[.none, .bool false, .ref s.heap.objs.size, rawInt 0, .none, .none] }) (s.heap.objs.size + 1) s.heap.objs.size 0 .none := by
    have := Heap.get?_push_size (s.heap.push { cls := .type "tuple_iterator", data := .fields #[.ref l, .int 0 0] })
      (o := { cls := .type "enumerate", data := .fields #[.none, .bool false, .ref s.heap.objs.size, rawInt 0, .none, .none] }) rfl
    rw [hz] at this; exact this
  refine ⟨⟨_, he, rfl⟩, h _ he ⟨_, Heap.get?_push_of_some _ (Heap.get?_push_size _ rfl), rfl, rfl⟩ (by rw [Heap.size_push, hz]) fun b o x => Heap.get?_push_of_some _ (Heap.get?_push_of_some _ x)⟩
end PySem
namespace FL
open PySem PySem.Spec PyProof.Rows L2
def IteT (K : PySem.W.Frag) (a : Addr) : It :=
  ⟨fun i H => ∃ (xs : List V) (x : V), SqT K H a xs ∧ xs[i]? = some x, fun i H v H' => ∃ T x, v = .ref T ∧ H T = none ∧ H' = upd H T (.tup [.int (i : Nat), x]) ∧ ∀ xs, SqT K H a xs → xs[i]? = some x, fun i H => ∃ xs : List V, SqT K H a xs ∧ xs.length = i⟩
theorem turn_enumT {P : Program} {w : World} {K : PySem.W.Frag} {elts : List Expr} {kk : Nat} {tpos : Pos} (a e it : Addr) (hai : a ≠ it) (hae : a ≠ e) :
    Turn P w K (.Tuple elts kk tpos) (IteT K a) [e, it] e (fun i h => (∃ old, IsEnum h e it ((i : Nat) : Int) old) ∧ h.IsTupleIter it a i ∧ e ≠ it) where
  mem := by simp
  obj := fun i h st b hb => by
    obtain ⟨⟨old, he⟩, ⟨o, ho, hc, hd⟩, _⟩ := st
    have e' : b = e ∨ b = it := by simpa using hb
    rcases e' with z | z
    · rw [z]; exact ⟨_, he, fun v q => nomatch q⟩
    · rw [z]; exact ⟨o, ho, fun v q => by rw [hd] at q; cases q⟩
  keep := fun i h h' st k => let ⟨⟨old, he⟩, hi, hne⟩ := st; ⟨⟨old, k e (by simp) _ he⟩, hi.at fun o q => k it (by simp) o q, hne⟩
  item := by
    intro X hP hw hK hc i pins s σ H E I hf st hg
    subst hP hw hK
    obtain ⟨⟨old, he⟩, hit, hne⟩ := st
    obtain ⟨xs, x, hq, hx⟩ := hg
    obtain ⟨its, rv, p, hz⟩ := I.tuple hq
    obtain ⟨u, hu, ru⟩ := rv.get hx
    have hel : e < s.heap.objs.size := Heap.lt_size he
    have hil : it < s.heap.objs.size := by obtain ⟨_, q, _⟩ := hit; exact Heap.lt_size q
    have D := Draws.tuple (prog := X.prog) (w := X.w) (A := X.A.in1) (I.ok.hd hc) it a hai its.toArray
    have hlt : i < its.toArray.size := by
      have := (List.getElem?_eq_some_iff.mp hu).1
      simpa using this
    have pT : s.heap.IsTuple a its.toArray := p
    refine wpAny_pyNext_enum_itemD D he ⟨hit, pT⟩ hlt hne (by simp; exact ⟨hne, Ne.symm hae⟩) fun y h' tk hP ho hs' hT hsz hk => ?_
    have ey : y = u := by
      have e1 : its[i]? = some y := by simpa using hP
      rw [hu] at e1
      exact (Option.some.inj e1).symm
    subst ey
    refine ⟨_, rfl, wpAny_letOwnedTupleGo_enum (s := { s with heap := h', toks := tk + 1 }) ho fun h'' he' sb => ?_⟩
    have hT2 : h''.get? s.heap.objs.size = some { cls := .type "tuple", data := .seq #[.int i tk, y] } := (sb.2 _ (Nat.ne_of_gt hel)).trans hT
    have new : ObjOk X.prog X.w (upd H s.heap.objs.size (.tup [.int (i : Nat), x])) h'' s.heap.objs.size (.tup [.int (i : Nat), x]) :=
      ⟨by show 2 ≤ sizeLine; decide, [.int i tk, y], .cons ⟨_, rfl⟩ (.cons ru .nil), ⟨_, hT2, rfl, _, rfl⟩⟩
    have I1 : Inv X pins σ (upd H s.heap.objs.size (.tup [.int (i : Nat), x])) { s with heap := h'', toks := tk + 1 } :=
      I.turnedNew (ch := [e, it]) (fun b ob hb q => (sb.2 b (fun z => hb (by simp [z]))).trans (hk b ob (fun z => hb (by simp [z])) (fun z => hb (by simp [z])) q)) hf (Nat.le_refl _) new
    refine ⟨.ref s.heap.objs.size, _, I1, rfl, ⟨_, x, rfl, I.hok.fresh (Nat.le_refl _), rfl, fun ys hy => by rw [I.tuple_inj hy hq]; exact hx⟩, ⟨⟨y, ?_⟩, hs'.1.at fun o q => (sb.2 it (Ne.symm hne)).trans q, hne⟩, fun b hb => ?_⟩
    · have e1 : ((i + 1 : Nat) : Int) = (i : Int) + 1 := by omega
      rw [e1]; exact he'
    · have hb' : b < s.heap.objs.size := by
        have e' : b = e ∨ b = it := by simpa using hb
        rcases e' with z | z
        · rw [z]; exact hel
        · rw [z]; exact hil
      rw [upd_ne (Nat.ne_of_lt hb')]
      exact (hf b hb).1
  done := by
    intro X hP hw hK hc i pins s σ H E I hf st hg
    subst hP hw hK
    obtain ⟨⟨old, he⟩, hit, hne⟩ := st
    obtain ⟨xs, hq, hx⟩ := hg
    obtain ⟨its, rv, p, hz⟩ := I.tuple hq
    obtain ⟨f0, f1, f2, f3, f4, f5⟩ := hf it (by simp)
    have hl := rv.length
    have pT : s.heap.IsTuple a its.toArray := p
    have D := Draws.tuple (prog := X.prog) (w := X.w) (A := X.A.in1) (I.ok.hd hc) it a hai its.toArray
    have en : i = its.toArray.size := by rw [List.size_toArray, ← hl]; exact hx.symm
    refine wpAny_pyNext_enum_endD D he ⟨by rw [← en]; exact hit, pT⟩ fun h' eb => ⟨rfl, I.turned (t' := s.toks) (fun b o hb q => eb b o hb q) f0 f1 f3 f4 f5⟩
  self := fun A i s Q E st h => let ⟨⟨_, he⟩, _⟩ := st; wpAny_pyIter_enum he h
/-- enumerate of a list or of a tuple -/
def iEnumA (K : PySem.W.Frag) (ta : TA) : TI := fun σ H R => ta σ H fun vs H1 => (∃ a xs, vs = [.ref a] ∧ SqL K H1 a xs ∧ R (Ite K a) H1) ∨ ∃ a xs, vs = [.ref a] ∧ SqT K H1 a xs ∧ R (IteT K a) H1
theorem pi_enumA {X : Cx} {e : Expr} {ta : TA} {p pos tpos : Pos} {elts : List Expr} {kk : Nat} (hg : Gl X "enumerate") (hm : X.mg "enumerate" = none) (ha : PA X [e] ta) (hs : starEach [e] X.env = [(false, eval e X.env)] := by rfl) :
    PI X (.Tuple elts kk tpos) (.Call (.Name "enumerate" p) [e] [] pos) (iEnumA X.K ta) := by
  refine ⟨fun pins s σ H R I h => ?_⟩
  refine Call_ (ld_blt I hg hm boot_enumerate (PyProof.Rows.callWith_type1 (thn (ha.run pos pins s σ H _ I h) fun us s1 ⟨vs, H1, I1, r1, q1⟩ => ?_) hs rfl))
  have fp : ∀ b ∈ [s1.heap.objs.size + 1, s1.heap.objs.size], FpOk X pins H1 b := fun b hb => by
    have e' : b = s1.heap.objs.size + 1 ∨ b = s1.heap.objs.size := by simpa using hb
    have hle : s1.heap.objs.size ≤ b := by
      rcases e' with z | z
      · rw [z]; exact Nat.le_add_right _ _
      · rw [z]; exact Nat.le_refl _
    exact I1.fpOk hle (I1.hok.fresh hle)
  rcases q1 with ⟨a, xs, ex, hq, q⟩ | ⟨a, xs, ex, hq, q⟩
  · subst ex
    cases r1 with
    | cons r rr =>
      cases rr
      cases r
      obtain ⟨its, rv, p', hz⟩ := I1.list hq
      refine call_enumerate_list p'.isList fun h' he hit hsz hk => wpAny_pyIter_enum he ?_
      have I2 : Inv X pins σ H1 { s1 with heap := h' } := I1.kept (t' := s1.toks) hk
      exact ⟨s1.heap.objs.size + 1, [s1.heap.objs.size + 1, s1.heap.objs.size], _, _, H1, rfl, I2, turn_enum a (s1.heap.objs.size + 1) s1.heap.objs.size, ⟨⟨.none, he⟩, hit, Nat.succ_ne_self _⟩, fp, q⟩
  · subst ex
    cases r1 with
    | cons r rr =>
      cases rr
      cases r
      obtain ⟨its, rv, p', hz⟩ := I1.tuple hq
      have al : a < s1.heap.objs.size := p'.lt
      refine fl_call_enumerate_tuple p' fun h' he hit hsz hk => wpAny_pyIter_enum he ?_
      have I2 : Inv X pins σ H1 { s1 with heap := h' } := I1.kept (t' := s1.toks) hk
      exact ⟨s1.heap.objs.size + 1, [s1.heap.objs.size + 1, s1.heap.objs.size], _, _, H1, rfl, I2, turn_enumT a (s1.heap.objs.size + 1) s1.heap.objs.size (Nat.ne_of_lt al) (Nat.ne_of_lt (Nat.lt_succ_of_lt al)), ⟨⟨.none, he⟩, hit, Nat.succ_ne_self _⟩, fp, q⟩
theorem walk_enumT {K : PySem.W.Frag} {a : Addr} {xs : List V} : Walk (IteT K a) xs.length (fun H => SqT K H a xs) (YPair (fun i => some (.int (i : Nat))) (fun i => xs[i]?)) := by
  refine ⟨fun i _ hi q => ⟨xs, xs[i], q, by simp [hi]⟩, fun _ q => ⟨xs, q, rfl⟩, fun i H v H' _ q y => ?_⟩
  obtain ⟨T, x, h1, h2, h3, h4⟩ := y
  exact ⟨T, .int (i : Nat), x, h1, h2, h3, rfl, h4 xs q⟩
/-- pairs of a number and an item -/
def enumD : Nat → List D → List D
  | _, [] => []
  | n, d :: ds => .tup [.int (n : Nat), d] :: enumD (n + 1) ds
theorem enumD_get : ∀ {ds : List D} {n i : Nat} {d : D}, ds[i]? = some d → (enumD n ds)[i]? = some (.tup [.int ((n + i : Nat) : Int), d])
  | [], _, _, _, h => by simp at h
  | d :: ds, n, 0, _, h => by simp at h; subst h; rfl
  | d :: ds, n, i + 1, _, h => by
    have := enumD_get (n := n + 1) (i := i) (by simpa using h)
    rw [show n + 1 + i = n + (i + 1) by omega] at this
    simpa [enumD] using this
theorem enumD_length : ∀ (ds : List D) (n : Nat), (enumD n ds).length = ds.length
  | [], _ => rfl
  | _ :: ds, n => by simp [enumD, enumD_length ds]
def itE : List D → Option (List D)
  | [.lst ds] => some (enumD 0 ds)
  | [.tup ds] => some (enumD 0 ds)
  | _ => none
def iEnumF (fs : Nv → R (List Ar)) : Nv → R (List D) := fun E => (fs E).bind fun as E1 => match valsOf as with
  | some ds => R.some (itE ds) E1
  | none => .bad
theorem fi_enum {X : Cx} {g : Gm} {W : WX} {e tg : Expr} {fs : Nv → R (List Ar)} (hK : X.K = g.K) (h : PI X tg e (iEnumA X.K (tG g W (relAs g) fs))) : FI X g W tg e (iEnumF fs) := piImp h fun σ H Q ⟨ρ, G, E, F, st, q⟩ =>
  bindI st q fun as E1 vs F1 H1 st1 s1 r1 q1 => by
    rw [hK]
    cases z : valsOf as with
    | none => simp only [z] at q1; exact q1.elim
    | some ds =>
      simp only [z] at q1
      have rl := valsOf_ok r1 z
      have pairs : ∀ {a : List D} {us : List V}, RepL g F1 a us → ∀ (i : Nat) (x y : V), i < us.length → some (V.int (i : Nat)) = some x → us[i]? = some y → ∃ d e, (enumD 0 a)[i]? = some (.tup [d, e]) ∧ Rep g F1 d x ∧ Rep g F1 e y := fun {a us} ra i x y _ hx hy => by
        cases hx
        obtain ⟨d, h1, r1⟩ := RepL.at (ds := a) (xs := us) (i := i) (x := y) ra hy
        exact ⟨.int (i : Nat), d, by rw [enumD_get h1, Nat.zero_add], rfl, r1⟩
      unfold itE at q1
      split at q1
      · obtain ⟨x, xs, rfl, ⟨p, us, rfl, hu, ru⟩, e0⟩ := rl
        cases (show xs = [] from e0)
        exact .inl ⟨p, us, rfl, .of (st1.sf _ _ hu), q1 _ F1 H1 st1 (Same.refl _) (walks_pair walk_enum (by rw [enumD_length, ru.length]) (fun H F2 a b => .of (b _ _ (a _ _ hu))) fun i x y h1 h2 h3 => pairs ru i x y h1 h2 h3)⟩
      · obtain ⟨x, xs, rfl, ⟨p, us, rfl, hu, ru⟩, e0⟩ := rl
        cases (show xs = [] from e0)
        exact .inr ⟨p, us, rfl, same_t st1.sf hu, q1 _ F1 H1 st1 (Same.refl _) (walks_pair walk_enumT (by rw [enumD_length, ru.length]) (fun H F2 a b => same_t (a.trans b) hu) fun i x y h1 h2 h3 => pairs ru i x y h1 h2 h3)⟩
      · exact q1.elim
end FL

namespace FL
open PySem PySem.Spec PyProof.Rows L2

/-! ## isinstance of one of several classes -/
/-- classes that are built-in -/
def tyNames : List D → Option (List String)
  | [] => some []
  | .ty T :: r => match tyNames r with
    | some l => if tgs.contains T = true then some (T :: l) else none
    | none => none
  | _ => none
def resIsiT (a : Ar) (cs : List Ar) (E : Nv) : R D := match a.get E with
  | none => .bad
  | some x => match tyName x, valsOf cs with
    | some t, some ds => match tyNames ds with
      | some l => if ds.length ≤ sizeLine then .val (.bl (l.any fun T => subTy t T)) E else .bad
      | none => .bad
    | _, _ => .bad
def fIsiT (fx : Nv → R Ar) (fc : Nv → R (List Ar)) : Nv → R D := fun E => (fx E).bind fun a E1 => (fc E1).bind fun cs E2 => resIsiT a cs E2
section
variable {g : Gm} {F H : Hp} {W : WX} {X : Cx} {e : Expr}
theorem tyNames_ok {K : PySem.W.Frag} {t : String} {tv : Value} (ht : ∀ T ∈ tgs, PySem.W.kitOne K tv (.type T) = some (subTy t T)) : ∀ {ds : List D} {vs : List V} {l : List String}, RepL g F ds vs → tyNames ds = some l → ∃ us, Paired ClsV vs us ∧ PySem.W.kitAny K tv us = some (l.any fun T => subTy t T)
  | [], _, _, r, h => by cases (show _ = [] from r); cases h; exact ⟨[], .nil, rfl⟩
  | d :: ds, _, _, r, h => by
    obtain ⟨x, xs, rfl, rx, rt⟩ := r
    cases d with
    | ty T =>
      unfold tyNames at h
      cases z : tyNames ds with
      | none => simp [z] at h
      | some l =>
        simp only [z] at h
        obtain ⟨hT, rfl⟩ := iteSome h
        obtain ⟨us, p, k⟩ := tyNames_ok (K := K) ht rt z
        obtain rfl : x = .ty T := rx
        refine ⟨.type T :: us, .cons (.ty T) p, ?_⟩
        have e := ht T (by simpa using hT)
        refine kitAny_cons e (fun hb => ?_) fun hb => ?_
        · rw [List.any_cons, hb, Bool.false_or]; exact k
        · rw [List.any_cons, hb, Bool.true_or]
    | _ => cases h
theorem fe_isiT {fx : Nv → R Ar} {fc : Nv → R (List Ar)} (hI : ∀ c, InsTy g c) (hK : X.K = g.K) (h : PE X e (tCB (rIsiT X.K) (tCons (tG g W (relA g) fx) (tCons (tTup (tG g W (relAs g) fc)) tNil)))) : FE X g W e (fIsiT fx fc) := peImp h fun σ H Q ⟨ρ, G, E, F, st, q⟩ =>
  bindE st q fun a E1 v F1 H1 st1 s1 r1 q1 => bindE st1 q1 fun cs E2 vs F2 H2 st2 s2 r2 q2 => by
    unfold resIsiT at q2
    cases z1 : a.get E2 with
    | none => simp only [z1] at q2; exact q2.elim
    | some x =>
      simp only [z1] at q2
      cases z2 : tyName x with
      | none => simp only [z2] at q2; exact q2.elim
      | some t =>
        cases z3 : valsOf cs with
        | none => simp only [z2, z3] at q2; exact q2.elim
        | some ds =>
          simp only [z2, z3] at q2
          cases z4 : tyNames ds with
          | none => simp only [z4] at q2; exact q2.elim
          | some l =>
            simp only [z4] at q2
            have rl := valsOf_ok r2 z3
            by_cases hl : ds.length ≤ sizeLine
            · rw [if_pos hl] at q2
              refine ⟨by rw [← rl.length]; exact hl, fun tp hp => ?_⟩
              have st3 := st2.grow hp (.tup vs)
              obtain ⟨tv, ty3, tm⟩ := tyx_kit (g := g) hI st3.sf (ar_ok st3 (r1.mono (s2.trans (Same.new (st2.fF hp)))) z1) z2
              obtain ⟨us, p, k⟩ := tyNames_ok (K := X.K) (by rw [hK]; exact tm) rl z4
              exact ⟨v, tp, vs, tv, us, _, rfl, upd_same, p, by rw [hK]; exact ty3, k, q2 _ _ _ st3 (Same.new (st2.fF hp)) rfl⟩
            · rw [if_neg hl] at q2; exact q2.elim
end
theorem units65 {k : Nat} {A : Around} (r : Room k A) : A.units + 65 < cLine := by have := r.un; omega
/-- a def that is never called deeper -/
def fn0 : Fn := fun _ => .bad
theorem fn0_ok {P : Program} {w : World} {K : PySem.W.Frag} {mg : Str → Option Value} {base : Heap} {g : Gm} {k : Nat} {f : Addr} {fd : FuncData} {ps : List Str} (n : Nat) (hn : n = ps.length) : FnOk P w K mg base (L2.CX P w) k f fd ps (spF g n fn0) :=
  ⟨fun vs H Q E h => by rw [h.1, hn], fun A outer s H args us vs Q E hr e0 hb r h => by
    obtain ⟨_, ρ, G, as, F, st, q⟩ := h
    exact q.elim⟩
/-- a def of the text, by the facts of the written part -/
theorem fun_at {K : PySem.W.Frag} {x qual : Str} {st : Stmt} {ps : List Str} {f : Addr} {oc : Value} {od an : Option Addr} {osl : Array (Option Value)} {kV doc pm cdv ct : Value}
    (l : K.lookup f = some ⟨oc, od, .func (PySem.W.fnOf x qual (defArgs st) (defBody st) (defScope st) .none kV doc pm an cdv ct), osl⟩) (c : PySem.W.codeIn K cdv qual = true) (k : PySem.W.keepIn K (.ref f) = true)
    (h : ∀ (kV doc pm : Value) (an : Option Addr) (cdv ct : Value) (us : List Value), us.length = ps.length → bindArgs (PySem.W.fnOf x qual (defArgs st) (defBody st) (defScope st) .none kV doc pm an cdv ct) ⟨us, []⟩ = pure (ps.zip us)) :
    ∃ fd, Fun K x qual st f fd ∧ Binds K fd ps [] := ⟨_, fun_mk l c k, (fun_mk l c k).binds h⟩
end FL

namespace FL
open PySem PySem.Spec PyProof.Rows L2

/-! ## what a function on data does -/
def wp {α : Type} : R α → (α → Nv → Prop) → Prop
  | .val a E, Q => Q a E
  | _, _ => False
def wpF : FR → (D → List Sl → Prop) → Prop
  | .val d bs, Q => Q d bs
  | _, _ => False
def wpN : FR → (D → List Sl → Prop) → Prop
  | .new d bs, Q => Q d bs
  | _, _ => False
section
variable {α β : Type} {a : α} {E : Nv} {Q : α → Nv → Prop}
theorem wp_val : wp (.val a E) Q = Q a E := rfl
theorem wp_bad : wp (.bad : R α) Q = False := rfl
theorem wp_bind {r : R β} {k : β → Nv → R α} : wp (r.bind k) Q = wp r fun b E1 => wp (k b E1) Q := by cases r <;> rfl
theorem wp_nox {r : R α} : wp r.nox Q = wp r Q := by cases r <;> rfl
theorem wp_somes {a : α} : wp (R.some (some a) E) Q = Q a E := rfl
theorem wp_some {o : Option α} : wp (R.some o E) Q = ∃ a, o = some a ∧ Q a E := by
  cases o with
  | none => exact propext ⟨fun h => h.elim, fun ⟨_, h, _⟩ => nomatch h⟩
  | some a => exact propext ⟨fun h => ⟨a, rfl, h⟩, fun ⟨_, h, q⟩ => by cases h; exact q⟩
theorem wp_imp {r : R α} {Q' : α → Nv → Prop} (h : wp r Q) (i : ∀ a E, Q a E → Q' a E) : wp r Q' := by
  cases r with
  | val a E => exact i a E h
  | exc _ _ _ => exact h
  | bad => exact h
theorem wpF_imp {r : FR} {Q Q' : D → List Sl → Prop} (h : wpF r Q) (i : ∀ a E, Q a E → Q' a E) : wpF r Q' := by
  cases r with
  | val a E => exact i a E h
  | _ => exact h
theorem wp_ite {c : Prop} [Decidable c] {r s : R α} : wp (if c then r else s) Q = if c then wp r Q else wp s Q := by split <;> rfl
end
section
variable {E : Nv} {QD : D → Nv → Prop} {QB : Bool → Nv → Prop} {QA : Ar → Nv → Prop} {QL : List Ar → Nv → Prop} {QS : Fl → Nv → Prop} {QI : List D → Nv → Prop} {QP : Option Int → Nv → Prop}
  {f h : Nv → R D} {fa fb fc : Nv → R Ar} {t u : Nv → R Bool} {s s2 : Nv → R Fl} {fs : List (Nv → R Ar)} {fl : Nv → R (List Ar)} {i j : Nat} {d : D} {o o' : D → D → Option D}
theorem wp_fC : wp (fC d E) QD = QD d E := rfl
theorem wp_fV : wp (fV f E) QA = wp (f E) fun d E1 => QA (.v d) E1 := by unfold fV; rw [wp_bind]; rfl
theorem wp_fOp2 : wp (fOp2 o fa fb E) QD = wp (fa E) fun a E1 => wp (fb E1) fun b E2 => wp (res2 o E2 a b) QD := by unfold fOp2; simp only [wp_bind]
theorem wp_res2 {a b : Ar} {d e : D} (h1 : a.get E = some d) (h2 : b.get E = some e) : wp (res2 o E a b) QD = ∃ z, o d e = some z ∧ QD z E := by unfold res2; simp only [h1, h2]; exact wp_some
theorem wp_fAs0 : wp (fAs [] E) QL = QL [] E := rfl
theorem wp_fAs1 : wp (fAs (fa :: fs) E) QL = wp (fa E) fun a E1 => wp (fAs fs E1) fun as E2 => QL (a :: as) E2 := by rw [show fAs (fa :: fs) E = (fa E).bind fun a E1 => (fAs fs E1).bind fun as E2 => .val (a :: as) E2 from rfl]; simp only [wp_bind, wp_val]
theorem wp_fOpL {o : List D → Option D} : wp (fOpL o fl E) QD = wp (fl E) fun as E1 => wp (resL o E1 as) QD := by unfold fOpL; simp only [wp_bind]
theorem wp_fOpV {o : List D → Option D} : wp (fOpV o fl E) QD = wp (fl E) fun as E1 => wp (resV o E1 as) QD := by unfold fOpV; simp only [wp_bind]
theorem wp_fTest : wp (fTest f E) QB = wp (f E) fun d E1 => ∃ b, asB d = some b ∧ QB b E1 := by unfold fTest; simp only [wp_bind, wp_some]
theorem wp_fChain : wp (fChain o o' fa fb fc E) QD = wp (fa E) fun a E1 => wp (fb E1) fun b E2 => wp (res2 o E2 a b) fun z E3 => (asB z = some true ∧ wp (fc E3) fun c E4 => wp (res2 o' E4 b c) QD) ∨ (asB z = some false ∧ QD (.bl false) E3) := by
  unfold fChain
  simp only [wp_bind]
  congr; funext a E1; congr; funext b E2; congr; funext z E3
  cases h : asB z with
  | none => simp [wp]
  | some b => cases b <;> simp [wp_bind, wp_val]
theorem wp_fAnd : wp (fAnd f h E) QD = wp (f E) fun d E1 => (asB d = some true ∧ wp (h E1) QD) ∨ (asB d = some false ∧ QD (.bl false) E1) := by
  unfold fAnd
  simp only [wp_bind]
  congr; funext z E3
  cases h : asB z with
  | none => simp [wp]
  | some b => cases b <;> simp [wp]
theorem wp_fOr : wp (fOr f h E) QD = wp (f E) fun d E1 => (asB d = some false ∧ wp (h E1) QD) ∨ (asB d = some true ∧ QD (.bl true) E1) := by
  unfold fOr
  simp only [wp_bind]
  congr; funext z E3
  cases h : asB z with
  | none => simp [wp]
  | some b => cases b <;> simp [wp]
theorem wp_fNot : wp (fNot f E) QD = wp (f E) fun d E1 => ∃ b, asB d = some b ∧ QD (.bl (!b)) E1 := by
  unfold fNot
  simp only [wp_bind]
  congr; funext z E3
  cases h : asB z with
  | none => simp [wp]
  | some b => simp [wp]
theorem wp_tAndF : wp (tAndF t u E) QB = wp (t E) fun b E1 => if b = true then wp (u E1) QB else QB false E1 := by unfold tAndF; simp only [wp_bind, wp_ite, wp_val]
theorem wp_tOrF : wp (tOrF t u E) QB = wp (t E) fun b E1 => if b = true then QB true E1 else wp (u E1) QB := by unfold tOrF; simp only [wp_bind, wp_ite, wp_val]
theorem wp_tNotF : wp (tNotF t E) QB = wp (t E) fun b E1 => QB (!b) E1 := by unfold tNotF; simp only [wp_bind, wp_val]
theorem wp_fIf {α : Type} {Q : α → Nv → Prop} {f g : Nv → R α} : wp (fIf t f g E) Q = wp (t E) fun b E1 => if b = true then wp (f E1) Q else wp (g E1) Q := by unfold fIf; simp only [wp_bind, wp_ite]
/-! statements -/
theorem wp_fNx : wp (fNx E) QS = QS .nx E := rfl
theorem wp_fBad {α : Type} {Q : α → Nv → Prop} : wp (fBad E) Q = False := rfl
theorem wp_fSeq : wp (fSeq s s2 E) QS = wp (s E) fun fl E1 => match fl with
    | .nx => wp (s2 E1) QS
    | fl => QS fl E1 := by
  unfold fSeq
  cases s E with
  | val fl E1 => cases fl <;> rfl
  | _ => rfl
theorem wp_fDrop : wp (fDrop f E) QS = wp (f E) fun _ E1 => QS .nx E1 := by unfold fDrop; simp only [wp_bind, wp_val]
theorem wp_fRet : wp (fRet f E) QS = wp (f E) fun d E1 => QS (.rt d) E1 := by unfold fRet; simp only [wp_bind, wp_val]
theorem wp_fRetN : wp (fRetN f E) QS = wp (f E) fun d E1 => QS (.rn d) E1 := by unfold fRetN; simp only [wp_bind, wp_val]
theorem wp_fRet0 : wp (fRet0 E) QS = QS (.rt .non) E := rfl
theorem wp_fSet : wp (fSet i f E) QS = wp (f E) fun d E1 => QS .nx (E1.set i (.fz d)) := by unfold fSet; simp only [wp_bind, wp_val]
theorem wp_fSetN : wp (fSetN i f E) QS = wp (f E) fun d E1 => QS .nx (E1.set i (.own d)) := by unfold fSetN; simp only [wp_bind, wp_val]
theorem wp_fAsg {b : Bd} : wp (fAsg f b E) QS = wp (f E) fun d E1 => ∃ E2, b d E1 = some E2 ∧ QS .nx E2 := by
  unfold fAsg
  simp only [wp_bind]
  congr; funext d E1
  cases b d E1 <;> simp [wp]
theorem wp_fPar : wp (fPar i j f h E) QS = wp (f E) fun d E1 => wp (h E1) fun e E2 => QS .nx ((E2.set i (.fz d)).set j (.fz e)) := by unfold fPar; simp only [wp_bind, wp_val]
theorem wp_fParNE : wp (fParNE i j f h E) QS = wp (f E) fun d E1 => wp (h E1) fun e E2 => QS .nx ((E2.set i (.own d)).set j (.fz e)) := by unfold fParNE; simp only [wp_bind, wp_val]
theorem wp_fParEN : wp (fParEN i j f h E) QS = wp (f E) fun d E1 => wp (h E1) fun e E2 => QS .nx ((E2.set i (.fz d)).set j (.own e)) := by unfold fParEN; simp only [wp_bind, wp_val]
theorem wp_fSetIx : wp (fSetIx i f h E) QS = wp (h E) fun d E1 => wp (fPk i E1) fun _ E2 => wp (f E2) fun k E3 => wp (setIx i d k E3) QS := by unfold fSetIx; simp only [wp_bind]
theorem wp_fSetFld {n : Str} : wp (fSetFld i n f E) QS = wp (f E) fun d E1 => wp (fPk i E1) fun _ E2 => wp (setFld i n d E2) QS := by unfold fSetFld; simp only [wp_bind]
theorem wp_fMt {m : D → List D → Option (D × D)} : wp (fMt i m fl E) QD = wp (fPk i E) fun _ E1 => ∃ c, Ar.get E1 (.pk i) = some c ∧ isLst c = true ∧ wp (fl E1) fun as E2 => wp (resMt i m as E2) QD := by
  unfold fMt
  simp only [wp_bind]
  congr; funext _ E1
  cases h : Ar.get E1 (.pk i) with
  | none => simp [wp]
  | some c =>
    simp only
    by_cases hc : isLst c = true
    · simp [hc, wp_bind]
    · simp [hc, wp]
/-! walks -/
theorem wp_iAnyF : wp (iAnyF f E) QI = wp (f E) fun d E1 => wp (R.some (itAny d) E1) QI := by unfold iAnyF; simp only [wp_bind]
theorem wp_iRng : wp (iRng fl E) QI = wp (fl E) fun as E1 => ∃ ds, valsOf as = some ds ∧ wp (R.some (itR ds) E1) QI := by
  unfold iRng; simp only [wp_bind]; congr; funext as E1; cases valsOf as <;> simp [wp]
theorem wp_iZip : wp (iZip fl E) QI = wp (fl E) fun as E1 => ∃ ds, valsOf as = some ds ∧ wp (R.some (itZ ds) E1) QI := by
  unfold iZip; simp only [wp_bind]; congr; funext as E1; cases valsOf as <;> simp [wp]
theorem wp_iEnumF : wp (iEnumF fl E) QI = wp (fl E) fun as E1 => ∃ ds, valsOf as = some ds ∧ wp (R.some (itE ds) E1) QI := by
  unfold iEnumF; simp only [wp_bind]; congr; funext as E1; cases valsOf as <;> simp [wp]
theorem wp_fFor {fi : Nv → R (List D)} {b : Bd} : wp (fFor fi b s E) QS = wp (fi E) fun ds E1 => wp (forL b s ds E1) QS := by unfold fFor; simp only [wp_bind]
theorem wp_fLc {fi : Nv → R (List D)} {b : Bd} {vs : List Nat} : wp (fLc fi b t f vs E) QD = wp (fi E) fun ds E1 => wp (lcL b t f vs ds [] (wipeE E1 vs)) fun xs E2 => QD (.lst xs) (restoreE E1 E2 vs) := by unfold fLc; simp only [wp_bind, wp_val]
theorem wp_fCall {fn : Fn} : wp (fCall fn fl E) QD = wp (fl E) fun as E1 => wp (resC fn as E1) QD := by unfold fCall; simp only [wp_bind]
theorem wp_fCallN {fn : Fn} : wp (fCallN fn fl E) QD = wp (fl E) fun as E1 => wp (resCN fn as E1) QD := by unfold fCallN; simp only [wp_bind]
theorem wp_resC {fn : Fn} {ars : List Ar} {as : List Sl} (hl : lend E 0 ars = some as) (ho : once ars = true) : wp (resC fn ars E) QD = wpF (fn as) fun d bs => shape as bs = true ∧ QD d (unlend ars bs E) := by
  unfold resC
  simp only [hl, ho]
  cases fn as with
  | val d bs => simp only [wpF]; by_cases h : shape as bs = true <;> simp [h, wp]
  | new d bs => simp [wpF, wp]
  | exc c fs bs => simp only [wpF]; by_cases h : shape as bs = true <;> simp [h, wp]
  | bad => simp [wpF, wp]
theorem wp_resCN {fn : Fn} {ars : List Ar} {as : List Sl} (hl : lend E 0 ars = some as) (ho : once ars = true) : wp (resCN fn ars E) QD = wpN (fn as) fun d bs => shape as bs = true ∧ QD d (unlend ars bs E) := by
  unfold resCN
  simp only [hl, ho]
  cases fn as with
  | new d bs => simp only [wpN]; by_cases h : shape as bs = true <;> simp [h, wp]
  | val d bs => simp [wpN, wp]
  | exc c fs bs => simp only [wpN]; by_cases h : shape as bs = true <;> simp [h, wp]
  | bad => simp [wpN, wp]
theorem wp_fFld {n : Str} : wp (fFld n fa E) QD = wp (fa E) fun a E1 => wp (resFld n a E1) QD := by unfold fFld; simp only [wp_bind]
theorem wp_fSl {p q : Nv → R (Option Int)} : wp (fSl fa p q E) QD = wp (fa E) fun a E1 => wp (p E1) fun lo E2 => wp (q E2) fun hi E3 => wp (resSl lo hi a E3) QD := by unfold fSl; simp only [wp_bind]
theorem wp_pNone : wp (pNone E) QP = QP none E := rfl
theorem wp_pSome : wp (pSome f E) QP = wp (f E) fun d E1 => ∃ i, asI d = some i ∧ QP (some i) E1 := by
  unfold pSome; simp only [wp_bind]; congr; funext d E1; cases asI d <;> simp [wp]
theorem wp_runF {N : Nat} {as : List Sl} {Q : D → List Sl → Prop} (h : wp (s (as ++ List.replicate (N - as.length) .no)) fun fl E => match fl with
    | .nx => ∃ b, backs as E = some b ∧ Q .non b
    | .rt d => ∃ b, backs as E = some b ∧ Q d b
    | _ => False) : wpF (runF N s as) Q := by
  unfold runF
  revert h
  cases s (as ++ List.replicate (N - as.length) .no) with
  | val fl E =>
    cases fl with
    | nx => rintro ⟨b, h1, h2⟩; simp only [h1]; exact h2
    | rt d => rintro ⟨b, h1, h2⟩; simp only [h1]; exact h2
    | _ => exact fun h => h.elim
  | _ => exact fun h => h.elim
theorem wpN_runF {N : Nat} {as : List Sl} {Q : D → List Sl → Prop} (h : wp (s (as ++ List.replicate (N - as.length) .no)) fun fl E => match fl with
    | .rn d => ∃ b, backs as E = some b ∧ Q d b
    | _ => False) : wpN (runF N s as) Q := by
  unfold runF
  revert h
  cases s (as ++ List.replicate (N - as.length) .no) with
  | val fl E =>
    cases fl with
    | rn d => rintro ⟨b, h1, h2⟩; simp only [h1]; exact h2
    | _ => exact fun h => h.elim
  | _ => exact fun h => h.elim
/-- a loop by an invariant: I before each turn, by what is left -/
theorem wp_forL {b : Bd} {ds : List D} (I : List D → Nv → Prop) (h0 : I ds E) (turn : ∀ d r E, I (d :: r) E → ∃ E1, b d E = some E1 ∧ wp (s E1) fun fl E2 => match fl with
    | .nx => I r E2
    | .ct => I r E2
    | .bk => QS .nx E2
    | fl => QS fl E2) (fin : ∀ E, I [] E → QS .nx E) : wp (forL b s ds E) QS := by
  induction ds generalizing E with
  | nil => exact fin E h0
  | cons d r ih =>
    obtain ⟨E1, e1, w⟩ := turn d r E h0
    unfold forL
    simp only [e1]
    revert w
    cases s E1 with
    | val fl E2 =>
      cases fl with
      | nx => exact fun w => ih w
      | ct => exact fun w => ih w
      | bk => exact fun w => w
      | rt x => exact fun w => w
      | rn x => exact fun w => w
    | _ => exact fun w => w.elim
theorem wp_lcL {b : Bd} {ds acc : List D} {vs : List Nat} {Q : List D → Nv → Prop} (I : List D → List D → Nv → Prop) (h0 : I ds acc E) (turn : ∀ d r acc E, I (d :: r) acc E → ∃ E1, b d E = some E1 ∧ wp (t E1) fun k E2 => if k = true then wp (f E2) fun x E3 => acc.length < sizeLine ∧ I r (acc ++ [x]) (wipeE E3 vs) else I r acc (wipeE E2 vs))
    (fin : ∀ acc E, I [] acc E → Q acc E) : wp (lcL b t f vs ds acc E) Q := by
  induction ds generalizing E acc with
  | nil => exact fin acc E h0
  | cons d r ih =>
    obtain ⟨E1, e1, w⟩ := turn d r acc E h0
    unfold lcL
    simp only [e1, wp_bind, wp_nox]
    refine wp_imp w fun k E2 w2 => ?_
    by_cases hk : k = true
    · rw [if_pos hk] at w2 ⊢
      rw [wp_bind, wp_nox]
      refine wp_imp w2 fun x E3 w3 => ?_
      rw [if_pos w3.1]
      exact ih w3.2
    · rw [if_neg hk] at w2 ⊢
      exact ih w2
end
end FL

namespace FL
open PySem PySem.Spec PyProof.Rows L2
/-! ## running by simp: ends that stay shut -/
def seqQ (t : Nv → R Fl) (Q : Fl → Nv → Prop) : Fl → Nv → Prop := fun fl E1 => match fl with
  | .nx => wp (t E1) Q
  | fl => Q fl E1
def endQ (as : List Sl) (Q : D → List Sl → Prop) : Fl → Nv → Prop := fun fl E => match fl with
  | .nx => ∃ b, backs as E = some b ∧ Q .non b
  | .rt d => ∃ b, backs as E = some b ∧ Q d b
  | _ => False
def endN (as : List Sl) (Q : D → List Sl → Prop) : Fl → Nv → Prop := fun fl E => match fl with
  | .rn d => ∃ b, backs as E = some b ∧ Q d b
  | _ => False
def loopQ (I : List D → Nv → Prop) (r : List D) (Q : Fl → Nv → Prop) : Fl → Nv → Prop := fun fl E2 => match fl with
  | .nx => I r E2
  | .ct => I r E2
  | .bk => Q .nx E2
  | fl => Q fl E2
section
variable {α : Type} {s t : Nv → R Fl} {Q : Fl → Nv → Prop} {E : Nv} {as : List Sl} {QF : D → List Sl → Prop} {d : D} {I : List D → Nv → Prop} {r : List D}
theorem wp_seq (h : wp (s E) (seqQ t Q)) : wp (fSeq s t E) Q := by rw [wp_fSeq]; exact h
theorem seqQ_nx (h : wp (t E) Q) : seqQ t Q .nx E := h
theorem seqQ_rt (h : Q (.rt d) E) : seqQ t Q (.rt d) E := h
theorem seqQ_nx' : seqQ t Q .nx E = wp (t E) Q := rfl
theorem seqQ_rt' : seqQ t Q (.rt d) E = Q (.rt d) E := rfl
theorem seqQ_rn' : seqQ t Q (.rn d) E = Q (.rn d) E := rfl
theorem seqQ_bk' : seqQ t Q .bk E = Q .bk E := rfl
theorem seqQ_ct' : seqQ t Q .ct E = Q .ct E := rfl
theorem endQ_rt {b : List Sl} (h : backs as E = some b) (q : QF d b) : endQ as QF (.rt d) E := ⟨b, h, q⟩
theorem endQ_nx {b : List Sl} (h : backs as E = some b) (q : QF .non b) : endQ as QF .nx E := ⟨b, h, q⟩
theorem endQ_rt' : endQ as QF (.rt d) E = ∃ b, backs as E = some b ∧ QF d b := rfl
theorem endQ_nx' : endQ as QF .nx E = ∃ b, backs as E = some b ∧ QF .non b := rfl
theorem endN_rn' : endN as QF (.rn d) E = ∃ b, backs as E = some b ∧ QF d b := rfl
theorem loopQ_nx' : loopQ I r Q .nx E = I r E := rfl
theorem loopQ_ct' : loopQ I r Q .ct E = I r E := rfl
theorem loopQ_bk' : loopQ I r Q .bk E = Q .nx E := rfl
theorem loopQ_rt' : loopQ I r Q (.rt d) E = Q (.rt d) E := rfl
theorem run_wp {N : Nat} (h : wp (s (as ++ List.replicate (N - as.length) .no)) (endQ as QF)) : wpF (runF N s as) QF := wp_runF h
theorem run_wpN {N : Nat} (h : wp (s (as ++ List.replicate (N - as.length) .no)) (endN as QF)) : wpN (runF N s as) QF := wpN_runF h
theorem for_wp {b : Bd} {ds : List D} (I : List D → Nv → Prop) (h0 : I ds E) (turn : ∀ d r E, I (d :: r) E → ∃ E1, b d E = some E1 ∧ wp (s E1) (loopQ I r Q)) (fin : ∀ E, I [] E → Q .nx E) : wp (forL b s ds E) Q := wp_forL I h0 turn fin
theorem wp_someIte {o : α} {c : Prop} [Decidable c] {Q : α → Nv → Prop} : wp (R.some (if c then some o else none) E) Q = (c ∧ Q o E) := by
  by_cases h : c
  · simp [h, R.some, wp]
  · simp [h, R.some, wp]
theorem atI_nat' {xs : List α} (n : Nat) : atI xs (n : Int) = xs[n]? := by
  unfold atI ixN
  rw [if_pos (by omega)]
  by_cases h : n < xs.length
  · rw [if_pos (by omega)]
    rfl
  · rw [if_neg (by omega), List.getElem?_eq_none (by omega)]
    rfl
theorem atI_0 {xs : List α} : atI xs 0 = xs[0]? := atI_nat' 0
theorem atI_1 {xs : List α} : atI xs 1 = xs[1]? := atI_nat' 1
theorem atI_2 {xs : List α} : atI xs 2 = xs[2]? := atI_nat' 2
theorem atI_3 {xs : List α} : atI xs 3 = xs[3]? := atI_nat' 3
theorem atI_4 {xs : List α} : atI xs 4 = xs[4]? := atI_nat' 4
theorem atI_pos {xs : List α} {i : Int} (h : 0 ≤ i) : atI xs i = xs[i.toNat]? := by
  obtain ⟨n, rfl⟩ := Int.eq_ofNat_of_zero_le h
  exact atI_nat' n
theorem ixN_pos {n : Nat} {i : Int} (h : 0 ≤ i) (h2 : i < n) : ixN n i = some i.toNat := by unfold ixN; rw [if_pos h, if_pos h2]
theorem ixN_0 {n : Nat} : ixN (n + 1) 0 = some 0 := ixN_pos (by omega) (by omega)
theorem ixN_1 {n : Nat} : ixN (n + 2) 1 = some 1 := ixN_pos (by omega) (by omega)
theorem ixN_2 {n : Nat} : ixN (n + 3) 2 = some 2 := ixN_pos (by omega) (by omega)
theorem ixN_3 {n : Nat} : ixN (n + 4) 3 = some 3 := ixN_pos (by omega) (by omega)
theorem ixN_4 {n : Nat} : ixN (n + 5) 4 = some 4 := ixN_pos (by omega) (by omega)
/-! equality of ints -/
theorem dEq_int {i j : Int} : dEq (.int i) (.int j) = some (i == j) := by
  show (if SeqAt.shaped (PyData.int i) = true ∧ SeqAt.shaped (PyData.int j) = true then some (PyData.eqv (PyData.int i) (PyData.int j)) else none) = _
  rw [if_pos ⟨rfl, rfl⟩]
  rfl
theorem oEq_int {i j : Int} : oEq (.int i) (.int j) = some (.bl (i == j)) := by unfold oEq; rw [dEq_int]; rfl
theorem oNe_int {i j : Int} : oNe (.int i) (.int j) = some (.bl (!(i == j))) := by unfold oNe; rw [dEq_int]; rfl
theorem dEq_bl {i j : Bool} : dEq (.bl i) (.bl j) = some (i == j) := by
  show (if SeqAt.shaped (PyData.bool i) = true ∧ SeqAt.shaped (PyData.bool j) = true then some (PyData.eqv (PyData.bool i) (PyData.bool j)) else none) = _
  rw [if_pos ⟨rfl, rfl⟩]
  rfl
theorem oEq_bl {i j : Bool} : oEq (.bl i) (.bl j) = some (.bl (i == j)) := by unfold oEq; rw [dEq_bl]; rfl
theorem oNe_bl {i j : Bool} : oNe (.bl i) (.bl j) = some (.bl (!(i == j))) := by unfold oNe; rw [dEq_bl]; rfl
theorem ex_some {α : Type} {a : α} {p : α → Prop} : (∃ b, some a = some b ∧ p b) = p a := propext ⟨fun ⟨_, h, q⟩ => by cases h; exact q, fun h => ⟨a, rfl, h⟩⟩
theorem sl16 {n : Nat} (h : n ≤ 1000000) : n ≤ sizeLine := Nat.le_trans h (by rw [sizeLine_eq]; decide)
end
end FL

namespace FL
open PySem PySem.Spec PyProof.Rows L2

/-! ## a run by simp: the outcome alone is looked at, what comes behind waits (a type that hangs on it keeps simp away) -/
abbrev Tg {b : Type} (_ : b) : Type := Unit
def run {α : Type} (Q : α → Nv → Prop) (_ : Tg Q) (r : R α) : Prop := wp r Q
def runC (Q : D → List Sl → Prop) (_ : Tg Q) (r : FR) : Prop := wpF r Q
def runN (Q : D → List Sl → Prop) (_ : Tg Q) (r : FR) : Prop := wpN r Q
def seqK (s : Nv → R Fl) (Q : Fl → Nv → Prop) (_ : Tg (s, Q)) (fl : Fl) (E : Nv) : Prop := seqQ s Q fl E
def endK (as : List Sl) (Q : D → List Sl → Prop) (_ : Tg (as, Q)) (fl : Fl) (E : Nv) : Prop := endQ as Q fl E
def endM (as : List Sl) (Q : D → List Sl → Prop) (_ : Tg (as, Q)) (fl : Fl) (E : Nv) : Prop := endN as Q fl E
def bakK (as : List Sl) (Q : D → List Sl → Prop) (d : D) (_ : Tg (as, Q, d)) (b : Option (List Sl)) : Prop := ∃ x, b = some x ∧ Q d x
def loopK (I : List D → Nv → Prop) (r : List D) (Q : Fl → Nv → Prop) (_ : Tg (I, r, Q)) (fl : Fl) (E : Nv) : Prop := loopQ I r Q fl E
def ifK {α : Type} (f g : Nv → R α) (Q : α → Nv → Prop) (_ : Tg (f, g, Q)) (b : Bool) (E : Nv) : Prop := if b = true then wp (f E) Q else wp (g E) Q
def andK (h : Nv → R D) (Q : D → Nv → Prop) (_ : Tg (h, Q)) (d : D) (E : Nv) : Prop := (asB d = some true ∧ wp (h E) Q) ∨ (asB d = some false ∧ Q (.bl false) E)
def orK (h : Nv → R D) (Q : D → Nv → Prop) (_ : Tg (h, Q)) (d : D) (E : Nv) : Prop := (asB d = some false ∧ wp (h E) Q) ∨ (asB d = some true ∧ Q (.bl true) E)
def tandK (u : Nv → R Bool) (Q : Bool → Nv → Prop) (_ : Tg (u, Q)) (b : Bool) (E : Nv) : Prop := if b = true then wp (u E) Q else Q false E
def torK (u : Nv → R Bool) (Q : Bool → Nv → Prop) (_ : Tg (u, Q)) (b : Bool) (E : Nv) : Prop := if b = true then Q true E else wp (u E) Q
def chK (o' : D → D → Option D) (fc : Nv → R Ar) (b : Ar) (Q : D → Nv → Prop) (_ : Tg (o', fc, b, Q)) (z : D) (E3 : Nv) : Prop := (asB z = some true ∧ wp (fc E3) fun c E4 => wp (res2 o' E4 b c) Q) ∨ (asB z = some false ∧ Q (.bl false) E3)
def forK (b : Bd) (s : Nv → R Fl) (Q : Fl → Nv → Prop) (_ : Tg (b, s, Q)) (ds : List D) (E : Nv) : Prop := wp (forL b s ds E) Q
def lcK (b : Bd) (t : Nv → R Bool) (f : Nv → R D) (vs : List Nat) (Q : D → Nv → Prop) (_ : Tg (b, t, f, vs, Q)) (ds : List D) (E : Nv) : Prop := wp (lcL b t f vs ds [] (wipeE E vs)) fun xs E2 => Q (.lst xs) (restoreE E E2 vs)
def calK (fn : Fn) (ars : List Ar) (Q : D → Nv → Prop) (_ : Tg (fn, ars, Q)) (E : Nv) (as : Option (List Sl)) : Prop := match as with
  | some as => once ars = true ∧ wpF (fn as) fun d bs => shape as bs = true ∧ Q d (unlend ars bs E)
  | none => False
def calM (fn : Fn) (ars : List Ar) (Q : D → Nv → Prop) (_ : Tg (fn, ars, Q)) (E : Nv) (as : Option (List Sl)) : Prop := match as with
  | some as => once ars = true ∧ wpN (fn as) fun d bs => shape as bs = true ∧ Q d (unlend ars bs E)
  | none => False
def retK (as : List Sl) (ars : List Ar) (Q : D → Nv → Prop) (E : Nv) (_ : Tg (as, ars, Q, E)) (d : D) (bs : List Sl) : Prop := shape as bs = true ∧ Q d (unlend ars bs E)
def backK (Q : D → Nv → Prop) (_ : Tg Q) (d : D) (E : Nv) : Prop := Q d E
def asgK (b : Bd) (Q : Fl → Nv → Prop) (_ : Tg (b, Q)) (d : D) (E : Nv) : Prop := ∃ E2, b d E = some E2 ∧ Q .nx E2
def someK (Q : Nv → Prop) (_ : Tg Q) (o : Option Nv) : Prop := ∃ E, o = some E ∧ Q E
def mtK (m : D → List D → Option (D × D)) (i : Nat) (fl : Nv → R (List Ar)) (Q : D → Nv → Prop) (_ : Tg (m, fl, Q)) (c : Option D) (E : Nv) : Prop := ∃ d, c = some d ∧ isLst d = true ∧ wp (fl E) fun as E2 => wp (resMt i m as E2) Q
def optK {α : Type} (Q : α → Prop) (_ : Tg Q) (o : Option α) : Prop := ∃ a, o = some a ∧ Q a
/-! what is looked at -/
def pkV (s : Option Sl) (i : Nat) (E : Nv) : R Ar := match s with
  | some s => match s.cont with
    | some _ => .val (.pk i) E
    | none => .bad
  | none => .bad
def vrV (s : Option Sl) (i : Nat) (E : Nv) : R D := match s with
  | some (.fz d) => .val d E
  | some (.own d) => .val d (E.set i (.fz d))
  | _ => .bad
def slC (s : Option Sl) : Option D := match s with
  | some s => s.cont
  | none => none
def slCell : Option Sl → Option D
  | some s => s.cell
  | none => none
def r2 (o : D → D → Option D) (a b : Option D) : Option D := match a, b with
  | some d, some e => o d e
  | _, _ => none
def rL (o : List D → Option D) (a : Option (List D)) : Option D := match a with
  | some ds => o ds
  | none => none
def cons2 (a : Option D) (b : Option (List D)) : Option (List D) := match a, b with
  | some d, some ds => some (d :: ds)
  | _, _ => none
def rFld (n : Str) (a : Option D) : Option D := match a with
  | some (.ins _ ns ds) => lookD n ns ds
  | _ => none
def rSl (lo hi : Option Int) (a : Option D) : Option D := match a with
  | some d => oSl d lo hi
  | none => none
def rIx (s : Option Sl) (d k : D) : Option Sl := match s, k with
  | some s, .int i => match s.cell with
    | some (.lst ds) => match ixN ds.length i with
      | some m => some (s.put (.lst (ds.set m d)))
      | none => none
    | _ => none
  | _, _ => none
def rMt (o : D → List D → Option (D × D)) (s : Option Sl) (ds : Option (List D)) : Option (D × D) := match s, ds with
  | some s, some ds => match s.cell with
    | some c => o c ds
    | none => none
  | _, _ => none
def putO (s : Option Sl) (d : D) : Sl := match s with
  | some s => s.put d
  | none => .no
def rIsT (x : Option D) (cs : Option (List D)) : Option D := match x with
  | none => none
  | some x => match tyName x, cs with
    | some t, some ds => match tyNames ds with
      | some l => if ds.length ≤ sizeLine then some (.bl (l.any fun T => subTy t T)) else none
      | none => none
    | _, _ => none
def sCons2 (a : Option Sl) (b : Option (List Sl)) : Option (List Sl) := match a, b with
  | some a, some ds => some (a :: ds)
  | _, _ => none
def lendS1 (m : Nat) : Option Sl → Option Sl
  | some (.fz d) => some (.fz d)
  | some (.own d) => some (.bor m d)
  | some (.bor _ d) => some (.bor m d)
  | _ => none
def bCons (a : Sl) (b : Option (List Sl)) : Option (List Sl) := match b with
  | some b => some (a :: b)
  | none => none
section
variable {E : Nv} {QD : D → Nv → Prop} {QB : Bool → Nv → Prop} {QA : Ar → Nv → Prop} {QL : List Ar → Nv → Prop} {QS : Fl → Nv → Prop} {QI : List D → Nv → Prop} {QP : Option Int → Nv → Prop}
  {f h : Nv → R D} {fa fb fc : Nv → R Ar} {t u : Nv → R Bool} {s s2 : Nv → R Fl} {fs : List (Nv → R Ar)} {fl : Nv → R (List Ar)} {i j : Nat} {d : D} {o o' : D → D → Option D}
theorem x_val {α : Type} {a : α} {Q : α → Nv → Prop} {g : Tg Q} : run Q g (.val a E) = Q a E := rfl
theorem x_bad {α : Type} {Q : α → Nv → Prop} {g : Tg Q} : run Q g .bad = False := rfl
theorem x_exc {α : Type} {Q : α → Nv → Prop} {g : Tg Q} {c : Nat} {fs : Option (Str × D)} : run Q g (.exc c fs E) = False := rfl
theorem x_Rsome {α : Type} {a : α} : R.some (some a) E = .val a E := rfl
theorem x_Rnone {α : Type} : (R.some none E : R α) = .bad := rfl
theorem x_ite {α : Type} {a : α} {c : Prop} {ic : Decidable c} {Q : α → Nv → Prop} {g : Tg Q} : run Q g (R.some (@ite _ c ic (some a) none) E) = (c ∧ Q a E) := wp_someIte
theorem x_fPk {g : Tg QA} : run QA g (fPk i E) = run QA g (pkV E[i]? i E) := by
  unfold run fPk pkV; cases E[i]? with
  | none => rfl
  | some s => cases s <;> rfl
theorem x_fVar {g : Tg QD} : run QD g (fVar i E) = run QD g (vrV E[i]? i E) := by
  unfold run fVar vrV; cases E[i]? with
  | none => rfl
  | some s => cases s <;> rfl
theorem pkV_fz : pkV (some (.fz d)) i E = .val (.pk i) E := rfl
theorem pkV_own : pkV (some (.own d)) i E = .val (.pk i) E := rfl
theorem pkV_bor {k : Nat} : pkV (some (.bor k d)) i E = .val (.pk i) E := rfl
theorem vrV_fz : vrV (some (.fz d)) i E = .val d E := rfl
theorem vrV_own : vrV (some (.own d)) i E = .val d (E.set i (.fz d)) := rfl
theorem get_v : Ar.get E (.v d) = some d := rfl
theorem get_pk : Ar.get E (.pk i) = slC E[i]? := by unfold Ar.get slC; rfl
theorem slC_fz : slC (some (.fz d)) = some d := rfl
theorem slC_own : slC (some (.own d)) = some d := rfl
theorem slC_bor {k : Nat} : slC (some (.bor k d)) = some d := rfl
theorem x_fC {g : Tg QD} : run QD g (fC d E) = QD d E := rfl
theorem x_fV {g : Tg QA} : run QA g (fV f E) = run (fun d E1 => QA (.v d) E1) () (f E) := wp_fV
theorem x_fOp2 {g : Tg QD} : run QD g (fOp2 o fa fb E) = run (fun a E1 => run (fun b E2 => run QD () (R.some (r2 o (a.get E2) (b.get E2)) E2)) () (fb E1)) () (fa E) := by
  unfold run; rw [wp_fOp2]
  congr; funext a E1; congr; funext b E2
  unfold res2 r2; cases a.get E2 <;> cases b.get E2 <;> rfl
theorem r2_ss {d e : D} : r2 o (some d) (some e) = o d e := rfl
theorem x_fAs0 {g : Tg QL} : run QL g (fAs [] E) = QL [] E := rfl
theorem x_fAs1 {g : Tg QL} : run QL g (fAs (fa :: fs) E) = run (fun a E1 => run (fun as E2 => QL (a :: as) E2) () (fAs fs E1)) () (fa E) := wp_fAs1
theorem x_arGets0 : arGets E [] = some [] := rfl
theorem x_arGets1 {a : Ar} {as : List Ar} : arGets E (a :: as) = cons2 (a.get E) (arGets E as) := by
  rw [arGets]; unfold cons2; cases a.get E with
  | none => rfl
  | some d => cases arGets E as <;> rfl
theorem cons2_s {ds : List D} : cons2 (some d) (some ds) = some (d :: ds) := rfl
theorem x_valsOf0 : valsOf [] = some [] := rfl
theorem x_valsOf1 {as : List Ar} : valsOf (.v d :: as) = cons2 (some d) (valsOf as) := by rw [valsOf]; unfold cons2; cases valsOf as <;> rfl
theorem rL_s {o : List D → Option D} {ds : List D} : rL o (some ds) = o ds := rfl
theorem x_fOpL {o : List D → Option D} {g : Tg QD} : run QD g (fOpL o fl E) = run (fun as E1 => run QD () (R.some (rL o (arGets E1 as)) E1)) () (fl E) := by
  unfold run; rw [wp_fOpL]; congr; funext as E1; unfold resL rL; cases arGets E1 as <;> rfl
theorem x_fOpV {o : List D → Option D} {g : Tg QD} : run QD g (fOpV o fl E) = run (fun as E1 => run QD () (R.some (rL o (valsOf as)) E1)) () (fl E) := by
  unfold run; rw [wp_fOpV]; congr; funext as E1; unfold resV rL; cases valsOf as <;> rfl
theorem x_fAnd {g : Tg QD} : run QD g (fAnd f h E) = run (andK h QD ()) () (f E) := wp_fAnd
theorem x_fOr {g : Tg QD} : run QD g (fOr f h E) = run (orK h QD ()) () (f E) := wp_fOr
theorem andK_t {g : Tg (h, QD)} : andK h QD g (.bl true) E = run QD () (h E) := by unfold andK asB run; simp
theorem andK_f {g : Tg (h, QD)} : andK h QD g (.bl false) E = QD (.bl false) E := by unfold andK asB; simp
theorem orK_t {g : Tg (h, QD)} : orK h QD g (.bl true) E = QD (.bl true) E := by unfold orK asB; simp
theorem orK_f {g : Tg (h, QD)} : orK h QD g (.bl false) E = run QD () (h E) := by unfold orK asB run; simp
theorem andK_if {b : Bool} {g : Tg (h, QD)} (h1 : b = true → run QD () (h E)) (h2 : b = false → QD (.bl false) E) : andK h QD g (.bl b) E := by
  cases b with
  | true => rw [andK_t]; exact h1 rfl
  | false => rw [andK_f]; exact h2 rfl
theorem orK_if {b : Bool} {g : Tg (h, QD)} (h1 : b = false → run QD () (h E)) (h2 : b = true → QD (.bl true) E) : orK h QD g (.bl b) E := by
  cases b with
  | true => rw [orK_t]; exact h2 rfl
  | false => rw [orK_f]; exact h1 rfl
theorem x_tAnd {g : Tg QB} : run QB g (tAndF t u E) = run (tandK u QB ()) () (t E) := wp_tAndF
theorem x_tOr {g : Tg QB} : run QB g (tOrF t u E) = run (torK u QB ()) () (t E) := wp_tOrF
theorem x_tNot {g : Tg QB} : run QB g (tNotF t E) = run (fun b E1 => QB (!b) E1) () (t E) := wp_tNotF
theorem tandK_t {g : Tg (u, QB)} : tandK u QB g true E = run QB () (u E) := rfl
theorem tandK_f {g : Tg (u, QB)} : tandK u QB g false E = QB false E := rfl
theorem torK_t {g : Tg (u, QB)} : torK u QB g true E = QB true E := rfl
theorem torK_f {g : Tg (u, QB)} : torK u QB g false E = run QB () (u E) := rfl
theorem tandK_if {b : Bool} {g : Tg (u, QB)} (h1 : b = true → run QB () (u E)) (h2 : b = false → QB false E) : tandK u QB g b E := by
  cases b with
  | true => exact h1 rfl
  | false => exact h2 rfl
theorem torK_if {b : Bool} {g : Tg (u, QB)} (h1 : b = false → run QB () (u E)) (h2 : b = true → QB true E) : torK u QB g b E := by
  cases b with
  | true => exact h2 rfl
  | false => exact h1 rfl
theorem x_fIf {α : Type} {Q : α → Nv → Prop} {f g : Nv → R α} {k : Tg Q} : run Q k (fIf t f g E) = run (ifK f g Q ()) () (t E) := wp_fIf
theorem ifK_t {α : Type} {Q : α → Nv → Prop} {f g : Nv → R α} {k : Tg (f, g, Q)} : ifK f g Q k true E = run Q () (f E) := rfl
theorem ifK_f {α : Type} {Q : α → Nv → Prop} {f g : Nv → R α} {k : Tg (f, g, Q)} : ifK f g Q k false E = run Q () (g E) := rfl
theorem ifK_if {α : Type} {Q : α → Nv → Prop} {f g : Nv → R α} {k : Tg (f, g, Q)} {b : Bool} (h1 : b = true → run Q () (f E)) (h2 : b = false → run Q () (g E)) : ifK f g Q k b E := by
  cases b with
  | true => exact h1 rfl
  | false => exact h2 rfl
theorem x_fTest {g : Tg QB} : run QB g (fTest f E) = run (fun d E1 => run QB () (R.some (asB d) E1)) () (f E) := by unfold run fTest; simp only [wp_bind]
theorem asB_bl {b : Bool} : asB (.bl b) = some b := rfl
theorem x_fNot {g : Tg QD} : run QD g (fNot f E) = run (fun d E1 => run (fun b E2 => QD (.bl (!b)) E2) () (R.some (asB d) E1)) () (f E) := by
  unfold run; rw [wp_fNot]; congr; funext d E1; cases asB d <;> simp [R.some, wp]
theorem x_fChain {g : Tg QD} : run QD g (fChain o o' fa fb fc E) = run (fun a E1 => run (fun b E2 => run (chK o' fc b QD ()) () (R.some (r2 o (a.get E2) (b.get E2)) E2)) () (fb E1)) () (fa E) := by
  unfold run; rw [wp_fChain]; congr; funext a E1; congr; funext b E2
  unfold res2 r2 chK; cases a.get E2 <;> cases b.get E2 <;> rfl
theorem chK_t {b : Ar} {g : Tg (o', fc, b, QD)} : chK o' fc b QD g (.bl true) E = run (fun c E4 => run QD () (R.some (r2 o' (b.get E4) (c.get E4)) E4)) () (fc E) := by
  unfold chK asB run; simp only [true_and, Option.some.injEq, Bool.true_eq_false, false_and, or_false]
  congr; funext a E1; unfold res2 r2; cases b.get E1 <;> cases a.get E1 <;> rfl
theorem chK_f {b : Ar} {g : Tg (o', fc, b, QD)} : chK o' fc b QD g (.bl false) E = QD (.bl false) E := by unfold chK asB; simp
theorem chK_if {b : Ar} {g : Tg (o', fc, b, QD)} {z : Bool} (h1 : z = true → run (fun c E4 => run QD () (R.some (r2 o' (b.get E4) (c.get E4)) E4)) () (fc E)) (h2 : z = false → QD (.bl false) E) : chK o' fc b QD g (.bl z) E := by
  cases z with
  | true => rw [chK_t]; exact h1 rfl
  | false => rw [chK_f]; exact h2 rfl
/-! statements -/
theorem x_fNx {g : Tg QS} : run QS g (fNx E) = QS .nx E := rfl
theorem x_fBrk {g : Tg QS} : run QS g (fBrk E) = QS .bk E := rfl
theorem x_fCnt {g : Tg QS} : run QS g (fCnt E) = QS .ct E := rfl
theorem x_fBad {α : Type} {Q : α → Nv → Prop} {g : Tg Q} : run Q g (fBad E) = False := rfl
theorem x_seq {g : Tg QS} : run QS g (fSeq s s2 E) = run (seqK s2 QS ()) () (s E) := wp_fSeq
theorem seqK_nx {g : Tg (s, QS)} : seqK s QS g .nx E = run QS () (s E) := rfl
theorem seqK_rt {g : Tg (s, QS)} : seqK s QS g (.rt d) E = QS (.rt d) E := rfl
theorem seqK_rn {g : Tg (s, QS)} : seqK s QS g (.rn d) E = QS (.rn d) E := rfl
theorem seqK_bk {g : Tg (s, QS)} : seqK s QS g .bk E = QS .bk E := rfl
theorem seqK_ct {g : Tg (s, QS)} : seqK s QS g .ct E = QS .ct E := rfl
theorem loopK_nx {I : List D → Nv → Prop} {r : List D} {g : Tg (I, r, QS)} : loopK I r QS g .nx E = I r E := rfl
theorem loopK_ct {I : List D → Nv → Prop} {r : List D} {g : Tg (I, r, QS)} : loopK I r QS g .ct E = I r E := rfl
theorem loopK_bk {I : List D → Nv → Prop} {r : List D} {g : Tg (I, r, QS)} : loopK I r QS g .bk E = QS .nx E := rfl
theorem loopK_rt {I : List D → Nv → Prop} {r : List D} {g : Tg (I, r, QS)} : loopK I r QS g (.rt d) E = QS (.rt d) E := rfl
theorem loopK_rn {I : List D → Nv → Prop} {r : List D} {g : Tg (I, r, QS)} : loopK I r QS g (.rn d) E = QS (.rn d) E := rfl
theorem endK_nx {as : List Sl} {Q : D → List Sl → Prop} {g : Tg (as, Q)} : endK as Q g .nx E = bakK as Q .non () (backs as E) := rfl
theorem endK_rt {as : List Sl} {Q : D → List Sl → Prop} {g : Tg (as, Q)} : endK as Q g (.rt d) E = bakK as Q d () (backs as E) := rfl
theorem endM_rn {as : List Sl} {Q : D → List Sl → Prop} {g : Tg (as, Q)} : endM as Q g (.rn d) E = bakK as Q d () (backs as E) := rfl
theorem bakK_s {as b : List Sl} {Q : D → List Sl → Prop} {g : Tg (as, Q, d)} : bakK as Q d g (some b) = Q d b := ex_some
theorem bk_nil' {E : Nv} : backs [] E = some [] := rfl
theorem bk_fz' {x : D} {as : List Sl} {e : Sl} : backs (.fz x :: as) (e :: E) = bCons .no (backs as E) := by rw [backs]; unfold bCons; cases backs as E <;> rfl; all_goals (intros; contradiction)
theorem bk_bor' {x : D} {as : List Sl} {k : Nat} : backs (.bor k x :: as) (.bor k d :: E) = bCons (.bor k d) (backs as E) := by rw [backs]; simp only [if_pos]; unfold bCons; cases backs as E <;> rfl
theorem bCons_s {a : Sl} {b : List Sl} : bCons a (some b) = some (a :: b) := rfl
theorem x_fDrop {g : Tg QS} : run QS g (fDrop f E) = run (fun _ E1 => QS .nx E1) () (f E) := wp_fDrop
theorem x_fRet {g : Tg QS} : run QS g (fRet f E) = run (fun d E1 => QS (.rt d) E1) () (f E) := wp_fRet
theorem x_fRetN {g : Tg QS} : run QS g (fRetN f E) = run (fun d E1 => QS (.rn d) E1) () (f E) := wp_fRetN
theorem x_fRet0 {g : Tg QS} : run QS g (fRet0 E) = QS (.rt .non) E := rfl
theorem x_fSet {g : Tg QS} : run QS g (fSet i f E) = run (fun d E1 => QS .nx (E1.set i (.fz d))) () (f E) := wp_fSet
theorem x_fSetN {g : Tg QS} : run QS g (fSetN i f E) = run (fun d E1 => QS .nx (E1.set i (.own d))) () (f E) := wp_fSetN
theorem x_fPar {g : Tg QS} : run QS g (fPar i j f h E) = run (fun d E1 => run (fun e E2 => QS .nx ((E2.set i (.fz d)).set j (.fz e))) () (h E1)) () (f E) := wp_fPar
theorem x_fParNE {g : Tg QS} : run QS g (fParNE i j f h E) = run (fun d E1 => run (fun e E2 => QS .nx ((E2.set i (.own d)).set j (.fz e))) () (h E1)) () (f E) := wp_fParNE
theorem x_fParEN {g : Tg QS} : run QS g (fParEN i j f h E) = run (fun d E1 => run (fun e E2 => QS .nx ((E2.set i (.fz d)).set j (.own e))) () (h E1)) () (f E) := wp_fParEN
theorem x_fAsg {b : Bd} {g : Tg QS} : run QS g (fAsg f b E) = run (asgK b QS ()) () (f E) := wp_fAsg
theorem x_asgK {b : Bd} {g : Tg (b, QS)} : asgK b QS g d E = someK (fun E2 => QS .nx E2) () (b d E) := rfl
theorem someK_s {Q : Nv → Prop} {g : Tg Q} : someK Q g (some E) = Q E := ex_some
theorem x_bName : bName i d E = some (E.set i (.fz d)) := rfl
theorem x_bTup {bs : List Bd} {ds : List D} : bTup bs (.tup ds) E = bAll bs ds E := rfl
theorem x_bAll0 : bAll [] [] E = some E := rfl
theorem x_bAll1 {b : Bd} {bs : List Bd} {ds : List D} : bAll (b :: bs) (d :: ds) E = (b d E).bind fun E1 => bAll bs ds E1 := rfl
theorem x_obind {α β : Type} {a : α} {g : α → Option β} : (some a).bind g = g a := by
  have h : ∀ o : Option α, o = some a → o.bind g = g a := fun o e => by rw [e]; rfl
  exact h _ rfl
theorem x_fFor {fi : Nv → R (List D)} {b : Bd} {g : Tg QS} : run QS g (fFor fi b s E) = run (forK b s QS ()) () (fi E) := wp_fFor
theorem x_fLc {fi : Nv → R (List D)} {b : Bd} {vs : List Nat} {g : Tg QD} : run QD g (fLc fi b t f vs E) = run (lcK b t f vs QD ()) () (fi E) := wp_fLc
theorem x_fCall {fn : Fn} {g : Tg QD} : run QD g (fCall fn fl E) = run (fun as E1 => calK fn as QD () E1 (lend E1 0 as)) () (fl E) := by
  unfold run; rw [wp_fCall]; congr; funext as E1
  unfold calK
  cases z : lend E1 0 as with
  | none => simp [resC, z, wp]
  | some xs =>
    by_cases ho : once as = true
    · rw [wp_resC z ho]; simp [ho]
    · simp [resC, z, ho, wp]
theorem x_fCallN {fn : Fn} {g : Tg QD} : run QD g (fCallN fn fl E) = run (fun as E1 => calM fn as QD () E1 (lend E1 0 as)) () (fl E) := by
  unfold run; rw [wp_fCallN]; congr; funext as E1
  unfold calM
  cases z : lend E1 0 as with
  | none => simp [resCN, z, wp]
  | some xs =>
    by_cases ho : once as = true
    · rw [wp_resCN z ho]; simp [ho]
    · simp [resCN, z, ho, wp]
theorem calK_s {fn : Fn} {ars : List Ar} {as : List Sl} {g : Tg (fn, ars, QD)} (ho : once ars = true) : calK fn ars QD g E (some as) = runC (retK as ars QD E ()) () (fn as) := by
  unfold calK runC retK; simp [ho]
theorem calM_s {fn : Fn} {ars : List Ar} {as : List Sl} {g : Tg (fn, ars, QD)} (ho : once ars = true) : calM fn ars QD g E (some as) = runN (retK as ars QD E ()) () (fn as) := by
  unfold calM runN retK; simp [ho]
theorem retK_s {as bs : List Sl} {ars : List Ar} {g : Tg (as, ars, QD, E)} (hs : shape as bs = true) : retK as ars QD E g d bs = backK QD () d (unlend ars bs E) := by unfold retK backK; simp [hs]
theorem x_backK {g : Tg QD} : backK QD g d E = QD d E := rfl
theorem runC_val {bs : List Sl} {Q : D → List Sl → Prop} {g : Tg Q} : runC Q g (.val d bs) = Q d bs := rfl
theorem runN_new {bs : List Sl} {Q : D → List Sl → Prop} {g : Tg Q} : runN Q g (.new d bs) = Q d bs := rfl
theorem lend0 {m : Nat} : lend E m [] = some [] := rfl
theorem lend_v1 {m : Nat} {r : List Ar} : lend E m (.v d :: r) = sCons2 (some (.fz d)) (lend E (m + 1) r) := by rw [lend]; unfold sCons2; cases lend E (m + 1) r <;> rfl
theorem lend_pk1 {m : Nat} {r : List Ar} : lend E m (.pk j :: r) = sCons2 (lendS1 m E[j]?) (lend E (m + 1) r) := by
  rw [lend]; unfold sCons2
  cases E[j]? with
  | none => rfl
  | some s => cases s <;> cases lend E (m + 1) r <;> rfl
theorem sCons2_s {a : Sl} {b : List Sl} : sCons2 (some a) (some b) = some (a :: b) := rfl
theorem lendS1_fz {m : Nat} : lendS1 m (some (.fz d)) = some (.fz d) := rfl
theorem lendS1_own {m : Nat} : lendS1 m (some (.own d)) = some (.bor m d) := rfl
theorem lendS1_bor {m k : Nat} : lendS1 m (some (.bor k d)) = some (.bor m d) := rfl
theorem unl_pk {r : List Ar} {bs : List Sl} {k : Nat} : unlend (.pk j :: r) (.bor k d :: bs) E = unlend r bs (E.set j (putO E[j]? d)) := by
  rw [unlend]; unfold putO
  cases z : E[j]? with
  | some s => rfl
  | none =>
    have : E.length ≤ j := List.getElem?_eq_none_iff.mp z
    simp only
    rw [List.set_eq_of_length_le this]
theorem unl_pkno {r : List Ar} {bs : List Sl} : unlend (.pk j :: r) (.no :: bs) E = unlend r bs E := by
  rw [unlend]
  intro _ _ _ _ h2
  cases h2
theorem unl_v {r : List Ar} {b : Sl} {bs : List Sl} : unlend (.v d :: r) (b :: bs) E = unlend r bs E := by
  rw [unlend]
  intro _ _ _ h1 _
  cases h1
theorem unl_nil {bs : List Sl} : unlend [] bs E = E := by cases bs <;> rfl
theorem putO_fz {x : D} : putO (some (.fz x)) d = .fz x := rfl
theorem putO_own {x : D} : putO (some (.own x)) d = .own d := rfl
theorem putO_bor {x : D} {k : Nat} : putO (some (.bor k x)) d = .bor k d := rfl
theorem x_fFld {n : Str} {g : Tg QD} : run QD g (fFld n fa E) = run (fun a E1 => run QD () (R.some (rFld n (a.get E1)) E1)) () (fa E) := by
  unfold run; rw [wp_fFld]; congr; funext a E1; unfold resFld rFld; cases a.get E1 with
  | none => rfl
  | some d => cases d <;> rfl
theorem rFld_s {n : Str} {c : Nat} {ns : List Str} {ds : List D} : rFld n (some (.ins c ns ds)) = lookD n ns ds := rfl
theorem x_fSl {p q : Nv → R (Option Int)} {g : Tg QD} : run QD g (fSl fa p q E) = run (fun a E1 => run (fun lo E2 => run (fun hi E3 => run QD () (R.some (rSl lo hi (a.get E3)) E3)) () (q E2)) () (p E1)) () (fa E) := by
  unfold run; rw [wp_fSl]; congr; funext a E1; congr; funext lo E2; congr; funext hi E3; unfold resSl rSl; cases a.get E3 <;> rfl
theorem rSl_s {lo hi : Option Int} : rSl lo hi (some d) = oSl d lo hi := rfl
theorem x_pNone {g : Tg QP} : run QP g (pNone E) = QP none E := rfl
theorem x_pSome {g : Tg QP} : run QP g (pSome f E) = run (fun d E1 => run (fun i E2 => QP (some i) E2) () (R.some (asI d) E1)) () (f E) := by
  unfold run pSome; rw [wp_bind]; congr; funext d E1; cases asI d <;> rfl
theorem asI_int {i : Int} : asI (.int i) = some i := rfl
theorem x_iAny {g : Tg QI} : run QI g (iAnyF f E) = run (fun d E1 => run QI () (R.some (itAny d) E1)) () (f E) := wp_iAnyF
theorem x_iRng {g : Tg QI} : run QI g (iRng fl E) = run (fun as E1 => run QI () (R.some ((valsOf as).bind itR) E1)) () (fl E) := by
  unfold run iRng; rw [wp_bind]; congr; funext d E1; cases valsOf d <;> rfl
theorem x_iZip {g : Tg QI} : run QI g (iZip fl E) = run (fun as E1 => run QI () (R.some ((valsOf as).bind itZ) E1)) () (fl E) := by
  unfold run iZip; rw [wp_bind]; congr; funext d E1; cases valsOf d <;> rfl
theorem x_iEnum {g : Tg QI} : run QI g (iEnumF fl E) = run (fun as E1 => run QI () (R.some ((valsOf as).bind itE) E1)) () (fl E) := by
  unfold run iEnumF; rw [wp_bind]; congr; funext d E1; cases valsOf d <;> rfl
theorem x_fSetIx {g : Tg QS} : run QS g (fSetIx i f h E) = run (fun d E1 => run (fun _ E2 => run (fun k E3 => run (fun x E4 => QS .nx (E4.set i x)) () (R.some (rIx E3[i]? d k) E3)) () (f E2)) () (fPk i E1)) () (h E) := by
  unfold run; rw [wp_fSetIx]; congr; funext d E1; congr; funext a E2; congr; funext k E3
  unfold setIx rIx
  cases E3[i]? with
  | none => rfl
  | some s =>
    cases z : s.cell with
    | none => cases k <;> simp [z, R.some, wp]
    | some c =>
      cases c <;> cases k <;> simp [z, R.some, wp]
      rename_i ds m
      cases ixN ds.length m <;> rfl
theorem rIx_own {ds : List D} {i : Int} : rIx (some (.own (.lst ds))) d (.int i) = (ixN ds.length i).map fun m => .own (.lst (ds.set m d)) := by
  unfold rIx Sl.cell; simp only; cases ixN ds.length i <;> rfl
theorem rIx_bor {ds : List D} {i : Int} {k : Nat} : rIx (some (.bor k (.lst ds))) d (.int i) = (ixN ds.length i).map fun m => .bor k (.lst (ds.set m d)) := by
  unfold rIx Sl.cell; simp only; cases ixN ds.length i <;> rfl
theorem x_fMt {m : D → List D → Option (D × D)} {g : Tg QD} : run QD g (fMt i m fl E) = run (fun _ E1 => mtK m i fl QD () (slC E1[i]?) E1) () (fPk i E) := by
  unfold run; rw [wp_fMt]; congr
theorem mtK_s {m : D → List D → Option (D × D)} {ds : List D} {g : Tg (m, fl, QD)} : mtK m i fl QD g (some (.lst ds)) E = run (fun as E2 => run (fun z E3 => QD z.1 (E3.set i (putO E3[i]? z.2))) () (R.some (rMt m E2[i]? (valsOf as)) E2)) () (fl E) := by
  unfold mtK run; rw [ex_some]; simp only [isLst, true_and]
  congr; funext as E2
  unfold resMt rMt
  cases valsOf as with
  | none => cases E2[i]? <;> rfl
  | some ds => cases z : E2[i]? with
    | none => rfl
    | some s =>
      simp only
      cases s.cell with
      | none => rfl
      | some c => simp only; cases m c ds <;> simp [R.some, wp, putO, z]
theorem rMt_own {m : D → List D → Option (D × D)} {ds : List D} : rMt m (some (.own d)) (some ds) = m d ds := rfl
theorem rMt_bor {m : D → List D → Option (D × D)} {ds : List D} {k : Nat} : rMt m (some (.bor k d)) (some ds) = m d ds := rfl
theorem x_fIsiT {fc : Nv → R (List Ar)} {g : Tg QD} : run QD g (fIsiT fa fc E) = run (fun a E1 => run (fun cs E2 => run QD () (R.some (rIsT (a.get E2) (valsOf cs)) E2)) () (fc E1)) () (fa E) := by
  unfold run fIsiT; simp only [wp_bind]; congr; funext a E1; congr; funext cs E2
  unfold resIsiT rIsT
  cases a.get E2 with
  | none => rfl
  | some x =>
    simp only
    cases tyName x with
    | none => cases valsOf cs <;> rfl
    | some t => cases valsOf cs with
      | none => rfl
      | some ds =>
        simp only
        cases tyNames ds with
        | none => rfl
        | some l => simp only; split <;> rfl
theorem x_fSetFld {n : Str} {g : Tg QS} : run QS g (fSetFld i n f E) = run (fun d E1 => run (fun _ E2 => run QS () (setFld i n d E2)) () (fPk i E1)) () (f E) := wp_fSetFld
/-! the whole def -/
theorem eq_of_wpF {r : FR} {x : D} {y : List Sl} (h : wpF r fun d bs => d = x ∧ bs = y) : r = .val x y := by
  cases r with
  | val d bs => obtain ⟨rfl, rfl⟩ := h; rfl
  | _ => exact h.elim
theorem eq_of_wpN {r : FR} {x : D} {y : List Sl} (h : wpN r fun d bs => d = x ∧ bs = y) : r = .new x y := by
  cases r with
  | new d bs => obtain ⟨rfl, rfl⟩ := h; rfl
  | _ => exact h.elim
theorem fn_run {N : Nat} {as : List Sl} {Q : D → List Sl → Prop} (h : run (endK as Q ()) () (s (as ++ List.replicate (N - as.length) .no))) : wpF (runF N s as) Q := run_wp h
theorem fn_runN {N : Nat} {as : List Sl} {Q : D → List Sl → Prop} (h : run (endM as Q ()) () (s (as ++ List.replicate (N - as.length) .no))) : wpN (runF N s as) Q := run_wpN h
theorem fn_eq {N : Nat} {as : List Sl} {x : D} {y : List Sl} (h : run (endK as (fun d bs => d = x ∧ bs = y) ()) () (s (as ++ List.replicate (N - as.length) .no))) : runF N s as = .val x y := eq_of_wpF (run_wp h)
theorem fn_eqN {N : Nat} {as : List Sl} {x : D} {y : List Sl} (h : run (endM as (fun d bs => d = x ∧ bs = y) ()) () (s (as ++ List.replicate (N - as.length) .no))) : runF N s as = .new x y := eq_of_wpN (run_wpN h)
/-- a call by its promise -/
theorem call_by {fn : Fn} {as : List Sl} {Q P : D → List Sl → Prop} {g : Tg Q} (h : wpF (fn as) P) (k : ∀ d bs, P d bs → Q d bs) : runC Q g (fn as) := wpF_imp h k
theorem call_eq {fn : Fn} {as bs : List Sl} {d : D} {Q : D → List Sl → Prop} {g : Tg Q} (h : fn as = .val d bs) (k : Q d bs) : runC Q g (fn as) := by unfold runC; rw [h]; exact k
/-- a loop by an invariant -/
theorem for_run {b : Bd} {ds : List D} {g : Tg (b, s, QS)} (I : List D → Nv → Prop) (h0 : I ds E) (turn : ∀ d r E, I (d :: r) E → someK (fun E1 => run (loopK I r QS ()) () (s E1)) () (b d E)) (fin : ∀ E, I [] E → QS .nx E) : forK b s QS g ds E :=
  for_wp I h0 turn fin
/-- a loop over x :: the rest, by a state of your own -/
theorem for_state {σ : Type} {b : Bd} {ds : List D} {g : Tg (b, s, QS)} (env : σ → Nv → Prop) (I : List D → σ → Prop) (x0 : σ) (h0 : env x0 E) (i0 : I ds x0)
    (turn : ∀ d r x E, I (d :: r) x → env x E → someK (fun E1 => run (loopK (fun r E => ∃ y, env y E ∧ I r y) r QS ()) () (s E1)) () (b d E)) (fin : ∀ x E, env x E → I [] x → QS .nx E) : forK b s QS g ds E :=
  for_run (fun r E => ∃ y, env y E ∧ I r y) ⟨x0, h0, i0⟩ (fun d r E ⟨y, h1, h2⟩ => turn d r y E h2 h1) fun E ⟨y, h1, h2⟩ => fin y E h1 h2
/-- a comprehension by an invariant -/
theorem lc_run {b : Bd} {ds : List D} {vs : List Nat} {g : Tg (b, t, f, vs, QD)} (I : List D → List D → Nv → Prop) (h0 : I ds [] (wipeE E vs))
    (turn : ∀ d r acc E, I (d :: r) acc E → someK (fun E1 => run (fun k E2 => ifK f (fun E => R.bad) (fun x E3 => acc.length < sizeLine ∧ I r (acc ++ [x]) (wipeE E3 vs)) () k E2 ∨ (k = false ∧ I r acc (wipeE E2 vs))) () (t E1)) () (b d E))
    (fin : ∀ acc E2, I [] acc E2 → QD (.lst acc) (restoreE E E2 vs)) : lcK b t f vs QD g ds E := by
  refine wp_lcL I h0 (fun d r acc E h => ?_) fin
  obtain ⟨E1, e, w⟩ := turn d r acc E h
  refine ⟨E1, e, wp_imp w fun k E2 q => ?_⟩
  cases k with
  | true =>
    rcases q with q | ⟨q, _⟩
    · exact q
    · cases q
  | false =>
    rcases q with q | ⟨_, q⟩
    · exact (show False from q).elim
    · exact q
/-- a comprehension, no test, whose element is known and leaves the slots -/
theorem lc_map {b : Bd} {ds : List D} {vs : List Nat} {g : Tg (b, tYesF, f, vs, QD)} (k : D → D) (hl : ds.length ≤ sizeLine)
    (turn : ∀ d, d ∈ ds → someK (fun E1 => run (fun x E3 => x = k d ∧ wipeE E3 vs = wipeE E vs) () (f E1)) () (b d (wipeE E vs)))
    (fin : QD (.lst (ds.map k)) (restoreE E (wipeE E vs) vs)) : lcK b tYesF f vs QD g ds E := by
  refine lc_run (fun r acc E2 => ∃ l, ds = l ++ r ∧ acc = l.map k ∧ E2 = wipeE E vs) ⟨[], rfl, rfl, rfl⟩ ?_ ?_
  · rintro d r acc E2 ⟨l, rfl, rfl, rfl⟩
    obtain ⟨E1, e, w⟩ := turn d (by simp)
    refine ⟨E1, e, .inl (wp_imp w ?_)⟩
    rintro x E3 ⟨rfl, e3⟩
    refine ⟨?_, l ++ [d], by simp, by simp, e3⟩
    have : (l ++ d :: r).length = l.length + r.length + 1 := by simp; omega
    rw [List.length_map]; omega
  · rintro acc E2 ⟨l, rfl, rfl, rfl⟩
    simpa using fin
theorem once_0 : once [] = true := of_eq_true (eq_true rfl)
def pkIs (j : Nat) (a : Ar) : Bool := match a with
  | .pk i => i == j
  | _ => false
theorem pkIs_v : pkIs j (.v d) = false := rfl
theorem pkIs_pk : pkIs j (.pk i) = (i == j) := rfl
theorem once_v {r : List Ar} : once (.v d :: r) = once r := by rw [once]; intro _ h; cases h
theorem once_pk {r : List Ar} : once (.pk j :: r) = (!(r.any (pkIs j)) && once r) := rfl
theorem sh_0 : shape [] [] = true := of_eq_true (eq_true rfl)
theorem sh_fz' {a b : List Sl} {x : Sl} : shape (.fz d :: a) (x :: b) = shape a b := by rw [shape] <;> (intros; contradiction)
theorem sh_bor' {a b : List Sl} {k k' : Nat} {x : D} : shape (.bor k d :: a) (.bor k' x :: b) = shape a b := rfl
theorem B64_def {i : Int} : B64 i = (-(2 ^ 64) < i ∧ i < 2 ^ 64) := propext ⟨id, id⟩
theorem B63_def {i : Int} : B63 i = (-(2 ^ 63) ≤ i ∧ i < 2 ^ 63) := propext ⟨id, id⟩
theorem B62_def {i : Int} : B62 i = (-(2 ^ 62) ≤ i ∧ i < 2 ^ 62) := propext ⟨id, id⟩
theorem x_tYes {g : Tg QB} : run QB g (tYesF E) = QB true E := rfl
theorem x_ixL {ds : List D} {i : Int} : oIx (.lst ds) (.int i) = atI ds i := rfl
theorem x_ixT {ds : List D} {i : Int} : oIx (.tup ds) (.int i) = atI ds i := rfl
theorem tIsi {N : Nat} {x : D} {T : String} : oIsi N [x, .ty T] = (tyName x).bind fun t => if tgs.contains T = true then some (.bl (subTy t T)) else none := by
  show ((isiOne N x (.ty T)).map D.bl) = _
  unfold isiOne
  cases tyName x with
  | none => rfl
  | some t => by_cases h : tgs.contains T = true <;> simp [h]
theorem tgs_int : tgs.contains "int" = true := by decide
theorem tgs_bool : tgs.contains "bool" = true := by decide
theorem tgs_tuple : tgs.contains "tuple" = true := by decide
theorem tgs_list : tgs.contains "list" = true := by decide
theorem tgs_str : tgs.contains "str" = true := by decide
theorem st_own_bool : subTy "own" "bool" = false := by decide
theorem st_own_int : subTy "own" "int" = false := by decide
theorem st_own_str : subTy "own" "str" = false := by decide
theorem st_own_tuple : subTy "own" "tuple" = false := by decide
theorem st_own_list : subTy "own" "list" = false := by decide
theorem st_own_dict : subTy "own" "dict" = false := by decide
theorem st_NoneType_bool : subTy "NoneType" "bool" = false := by decide
theorem st_NoneType_int : subTy "NoneType" "int" = false := by decide
theorem st_NoneType_str : subTy "NoneType" "str" = false := by decide
theorem st_NoneType_tuple : subTy "NoneType" "tuple" = false := by decide
theorem st_NoneType_list : subTy "NoneType" "list" = false := by decide
theorem st_NoneType_dict : subTy "NoneType" "dict" = false := by decide
theorem st_bool_bool : subTy "bool" "bool" = true := by decide
theorem st_bool_int : subTy "bool" "int" = true := by decide
theorem st_bool_str : subTy "bool" "str" = false := by decide
theorem st_bool_tuple : subTy "bool" "tuple" = false := by decide
theorem st_bool_list : subTy "bool" "list" = false := by decide
theorem st_bool_dict : subTy "bool" "dict" = false := by decide
theorem st_int_bool : subTy "int" "bool" = false := by decide
theorem st_int_int : subTy "int" "int" = true := by decide
theorem st_int_str : subTy "int" "str" = false := by decide
theorem st_int_tuple : subTy "int" "tuple" = false := by decide
theorem st_int_list : subTy "int" "list" = false := by decide
theorem st_int_dict : subTy "int" "dict" = false := by decide
theorem st_str_bool : subTy "str" "bool" = false := by decide
theorem st_str_int : subTy "str" "int" = false := by decide
theorem st_str_str : subTy "str" "str" = true := by decide
theorem st_str_tuple : subTy "str" "tuple" = false := by decide
theorem st_str_list : subTy "str" "list" = false := by decide
theorem st_str_dict : subTy "str" "dict" = false := by decide
theorem st_tuple_bool : subTy "tuple" "bool" = false := by decide
theorem st_tuple_int : subTy "tuple" "int" = false := by decide
theorem st_tuple_str : subTy "tuple" "str" = false := by decide
theorem st_tuple_tuple : subTy "tuple" "tuple" = true := by decide
theorem st_tuple_list : subTy "tuple" "list" = false := by decide
theorem st_tuple_dict : subTy "tuple" "dict" = false := by decide
theorem st_list_bool : subTy "list" "bool" = false := by decide
theorem st_list_int : subTy "list" "int" = false := by decide
theorem st_list_str : subTy "list" "str" = false := by decide
theorem st_list_tuple : subTy "list" "tuple" = false := by decide
theorem st_list_list : subTy "list" "list" = true := by decide
theorem st_list_dict : subTy "list" "dict" = false := by decide
theorem st_dict_bool : subTy "dict" "bool" = false := by decide
theorem st_dict_int : subTy "dict" "int" = false := by decide
theorem st_dict_str : subTy "dict" "str" = false := by decide
theorem st_dict_tuple : subTy "dict" "tuple" = false := by decide
theorem st_dict_list : subTy "dict" "list" = false := by decide
theorem st_dict_dict : subTy "dict" "dict" = true := by decide
theorem tIsc {N c : Nat} {x : D} : oIsi N [x, .cls c] = (isiOne N x (.cls c)).map D.bl := rfl
theorem isc_ins {N c : Nat} {ns : List Str} {ds : List D} : isiOne N (.ins c ns ds) (.cls c) = some true := by unfold isiOne; simp
theorem isc_non {N c : Nat} : isiOne N .non (.cls c) = some false := rfl
theorem isc_bl {N c : Nat} {b : Bool} : isiOne N (.bl b) (.cls c) = some false := rfl
theorem isc_int {N c : Nat} {b : Int} : isiOne N (.int b) (.cls c) = some false := rfl
theorem isc_str {N c : Nat} {b : Str} : isiOne N (.str b) (.cls c) = some false := rfl
theorem isc_tup {N c : Nat} {b : List D} : isiOne N (.tup b) (.cls c) = some false := rfl
theorem isc_lst {N c : Nat} {b : List D} : isiOne N (.lst b) (.cls c) = some false := rfl
theorem isc_emp {N c : Nat} : isiOne N .emp (.cls c) = some false := rfl
theorem tgs_dict : tgs.contains "dict" = true := by decide
end
end FL

namespace FL
open PySem PySem.Spec PyProof.Rows L2
/-! ## loops over lists that are made of things of your own -/
def lpK (J : Nv → Prop) (Q : Fl → Nv → Prop) (_ : Tg (J, Q)) (fl : Fl) (E : Nv) : Prop := match fl with
  | .nx => J E
  | .ct => J E
  | .bk => Q .nx E
  | fl => Q fl E
def tsK (f : Nv → R D) (J : D → Nv → Prop) (N : Nv → Prop) (_ : Tg (f, J, N)) (b : Bool) (E : Nv) : Prop := if b = true then run J () (f E) else N E
section
variable {E : Nv} {QD : D → Nv → Prop} {QS : Fl → Nv → Prop} {f : Nv → R D} {t : Nv → R Bool} {s : Nv → R Fl} {J : Nv → Prop} {JD : D → Nv → Prop} {d : D} {b : Bd} {ds : List D} {α β : Type}
theorem lpK_nx {g : Tg (J, QS)} : lpK J QS g .nx E = J E := rfl
theorem lpK_ct {g : Tg (J, QS)} : lpK J QS g .ct E = J E := rfl
theorem lpK_bk {g : Tg (J, QS)} : lpK J QS g .bk E = QS .nx E := rfl
theorem lpK_rt {g : Tg (J, QS)} : lpK J QS g (.rt d) E = QS (.rt d) E := rfl
theorem lpK_rn {g : Tg (J, QS)} : lpK J QS g (.rn d) E = QS (.rn d) E := rfl
theorem tsK_t {g : Tg (f, JD, J)} : tsK f JD J g true E = run JD () (f E) := rfl
theorem tsK_f {g : Tg (f, JD, J)} : tsK f JD J g false E = J E := rfl
theorem tsK_if {g : Tg (f, JD, J)} {k : Bool} (h1 : k = true → run JD () (f E)) (h2 : k = false → J E) : tsK f JD J g k E := by
  cases k with
  | true => exact h1 rfl
  | false => exact h2 rfl
/-- by the rest -/
theorem for_maps {f : α → D} {xs : List α} {g : Tg (b, s, QS)} (P : List α → Nv → Prop) (h0 : P xs E)
    (turn : ∀ x r E, P (x :: r) E → someK (fun E1 => run (lpK (P r) QS ()) () (s E1)) () (b (f x) E)) (fin : ∀ E, P [] E → QS .nx E) : forK b s QS g (xs.map f) E := by
  refine for_run (fun r E => ∃ rs, r = rs.map f ∧ P rs E) ⟨xs, rfl, h0⟩ (fun d r E h => ?_) (fun E h => ?_)
  · obtain ⟨rs, e, p⟩ := h
    cases rs with
    | nil => cases e
    | cons x rs =>
      cases e
      obtain ⟨E1, e1, w⟩ := turn x rs E p
      refine ⟨E1, e1, wp_imp w fun fl E2 q => ?_⟩
      cases fl with
      | nx => exact ⟨rs, rfl, q⟩
      | ct => exact ⟨rs, rfl, q⟩
      | _ => exact q
  · obtain ⟨rs, e, p⟩ := h
    cases rs with
    | nil => exact fin E p
    | cons x rs => cases e
theorem for_ds {g : Tg (b, s, QS)} (P : List D → Nv → Prop) (h0 : P ds E)
    (turn : ∀ x r E, P (x :: r) E → someK (fun E1 => run (lpK (P r) QS ()) () (s E1)) () (b x E)) (fin : ∀ E, P [] E → QS .nx E) : forK b s QS g ds E := by
  have := for_maps (b := b) (s := s) (QS := QS) (g := g) (f := fun x => x) P h0 turn fin
  simpa using this
theorem enumD_map {f : α → D} : ∀ (n : Nat) (xs : List α), enumD n (xs.map f) = (xs.zipIdx n).map fun p => .tup [.int (p.2 : Nat), f p.1]
  | _, [] => rfl
  | n, x :: xs => by
    rw [List.map_cons, enumD, List.zipIdx_cons, List.map_cons, enumD_map (n + 1) xs]
theorem for_enum {f : α → D} {xs : List α} {g : Tg (b, s, QS)} (P : Nat → List α → Nv → Prop) (h0 : P 0 xs E)
    (turn : ∀ n x r E, P n (x :: r) E → someK (fun E1 => run (lpK (P (n + 1) r) QS ()) () (s E1)) () (b (.tup [.int (n : Nat), f x]) E)) (fin : ∀ n E, P n [] E → QS .nx E) : forK b s QS g (enumD 0 (xs.map f)) E := by
  rw [enumD_map]
  refine for_maps (fun r E => ∃ n rs, r = rs.zipIdx n ∧ P n rs E) ⟨0, xs, rfl, h0⟩ (fun p r E h => ?_) (fun E h => ?_)
  · obtain ⟨n, rs, e, p⟩ := h
    cases rs with
    | nil => cases e
    | cons x rs =>
      rw [List.zipIdx_cons] at e
      cases e
      obtain ⟨E1, e1, w⟩ := turn n x rs E p
      refine ⟨E1, e1, wp_imp w fun fl E2 q => ?_⟩
      cases fl with
      | nx => exact ⟨n + 1, rs, rfl, q⟩
      | ct => exact ⟨n + 1, rs, rfl, q⟩
      | _ => exact q
  · obtain ⟨n, rs, e, p⟩ := h
    cases rs with
    | nil => exact fin n E p
    | cons x rs => rw [List.zipIdx_cons] at e; cases e
theorem for_rng {lo : Int} {n : Nat} {g : Tg (b, s, QS)} (P : Nat → Nv → Prop) (h0 : P 0 E)
    (turn : ∀ i E, i < n → P i E → someK (fun E1 => run (lpK (P (i + 1)) QS ()) () (s E1)) () (b (.int (lo + i)) E)) (fin : ∀ E, P n E → QS .nx E) : forK b s QS g (rangeD lo n) E := by
  refine for_maps (fun r E => ∃ i, r = (List.range n).drop i ∧ i ≤ n ∧ P i E) ⟨0, rfl, Nat.zero_le _, h0⟩ (fun x r E h => ?_) (fun E h => ?_)
  · obtain ⟨i, e, hi, p⟩ := h
    by_cases hl : i < n
    · rw [List.drop_eq_getElem_cons (by simpa using hl)] at e
      cases e
      obtain ⟨E1, e1, w⟩ := turn i E hl p
      simp only [List.getElem_range]
      refine ⟨E1, e1, wp_imp w fun fl E2 q => ?_⟩
      cases fl with
      | nx => exact ⟨i + 1, rfl, hl, q⟩
      | ct => exact ⟨i + 1, rfl, hl, q⟩
      | _ => exact q
    · rw [List.drop_eq_nil_of_le (by simp; omega)] at e
      cases e
  · obtain ⟨i, e, hi, p⟩ := h
    have : n ≤ i := by simpa [List.drop_eq_nil_iff] using e.symm
    have : i = n := by omega
    subst this
    exact fin E p
/-- a comprehension over things of your own -/
theorem lc_maps {k : α → D} {xs : List α} {vs : List Nat} {g : Tg (b, t, f, vs, QD)} (hl : xs.length ≤ sizeLine) (P : List α → List D → Nv → Prop) (h0 : P xs [] (wipeE E vs))
    (turn : ∀ x r acc E, P (x :: r) acc E → someK (fun E1 => run (tsK f (fun y E3 => P r (acc ++ [y]) (wipeE E3 vs)) (fun E2 => P r acc (wipeE E2 vs)) ()) () (t E1)) () (b (k x) E))
    (fin : ∀ acc E2, P [] acc E2 → QD (.lst acc) (restoreE E E2 vs)) : lcK b t f vs QD g (xs.map k) E := by
  refine wp_lcL (fun r acc E => ∃ rs, r = rs.map k ∧ acc.length + rs.length ≤ sizeLine ∧ P rs acc E) ⟨xs, rfl, by simpa using hl, h0⟩ (fun d r acc E h => ?_) (fun acc E h => ?_)
  · obtain ⟨rs, e, hs, p⟩ := h
    cases rs with
    | nil => cases e
    | cons x rs =>
      cases e
      rw [List.length_cons] at hs
      obtain ⟨E1, e1, w⟩ := turn x rs acc E p
      refine ⟨E1, e1, wp_imp w fun c E2 q => ?_⟩
      cases c with
      | true =>
        rw [if_pos rfl]
        have q : wp (f E2) _ := q
        refine wp_imp q fun y E3 q2 => ⟨by omega, rs, rfl, ?_, q2⟩
        rw [List.length_append, List.length_singleton]; omega
      | false => exact ⟨rs, rfl, by omega, q⟩
  · obtain ⟨rs, e, hs, p⟩ := h
    cases rs with
    | nil => exact fin acc E p
    | cons x rs => cases e
theorem lc_ds {vs : List Nat} {g : Tg (b, t, f, vs, QD)} (hl : ds.length ≤ sizeLine) (P : List D → List D → Nv → Prop) (h0 : P ds [] (wipeE E vs))
    (turn : ∀ x r acc E, P (x :: r) acc E → someK (fun E1 => run (tsK f (fun y E3 => P r (acc ++ [y]) (wipeE E3 vs)) (fun E2 => P r acc (wipeE E2 vs)) ()) () (t E1)) () (b x E))
    (fin : ∀ acc E2, P [] acc E2 → QD (.lst acc) (restoreE E E2 vs)) : lcK b t f vs QD g ds E := by
  have := lc_maps (b := b) (t := t) (f := f) (QD := QD) (g := g) (k := fun x => x) hl P h0 turn fin
  simpa using this
/-- .. whose element is a function of the thing and that leaves the slots -/
theorem lc_fun {k : α → D} {xs : List α} {vs : List Nat} {g : Tg (b, tYesF, f, vs, QD)} (hl : xs.length ≤ sizeLine) (h : α → D)
    (turn : ∀ x, x ∈ xs → someK (fun E1 => run (fun y E3 => y = h x ∧ wipeE E3 vs = wipeE E vs) () (f E1)) () (b (k x) (wipeE E vs)))
    (fin : QD (.lst (xs.map h)) (restoreE E (wipeE E vs) vs)) : lcK b tYesF f vs QD g (xs.map k) E := by
  refine lc_maps hl (fun r acc E2 => ∃ l, xs = l ++ r ∧ acc = l.map h ∧ E2 = wipeE E vs) ⟨[], rfl, rfl, rfl⟩ ?_ ?_
  · rintro x r acc E2 ⟨l, rfl, rfl, rfl⟩
    obtain ⟨E1, e, w⟩ := turn x (by simp)
    refine ⟨E1, e, wp_imp (r := f E1) w ?_⟩
    rintro y E3 ⟨rfl, e3⟩
    exact ⟨l ++ [x], by simp, by simp, e3⟩
  · rintro acc E2 ⟨l, rfl, rfl, rfl⟩
    simpa using fin
theorem lc_rng {lo : Int} {n : Nat} {vs : List Nat} {g : Tg (b, t, f, vs, QD)} (hl : n ≤ sizeLine) (P : Nat → List D → Nv → Prop) (h0 : P 0 [] (wipeE E vs))
    (turn : ∀ i acc E, i < n → P i acc E → someK (fun E1 => run (tsK f (fun y E3 => P (i + 1) (acc ++ [y]) (wipeE E3 vs)) (fun E2 => P (i + 1) acc (wipeE E2 vs)) ()) () (t E1)) () (b (.int (lo + i)) E))
    (fin : ∀ acc E2, P n acc E2 → QD (.lst acc) (restoreE E E2 vs)) : lcK b t f vs QD g (rangeD lo n) E := by
  refine lc_maps (by simpa using hl) (fun r acc E => ∃ i, r = (List.range n).drop i ∧ i ≤ n ∧ P i acc E) ⟨0, rfl, Nat.zero_le _, h0⟩ (fun x r acc E h => ?_) (fun acc E h => ?_)
  · obtain ⟨i, e, hi, p⟩ := h
    by_cases hl : i < n
    · rw [List.drop_eq_getElem_cons (by simpa using hl)] at e
      cases e
      obtain ⟨E1, e1, w⟩ := turn i acc E hl p
      simp only [List.getElem_range]
      refine ⟨E1, e1, wp_imp w fun c E2 q => ?_⟩
      cases c with
      | true => exact wp_imp (r := f E2) q fun y E3 q2 => ⟨i + 1, rfl, hl, q2⟩
      | false => exact ⟨i + 1, rfl, hl, q⟩
    · rw [List.drop_eq_nil_of_le (by simp; omega)] at e
      cases e
  · obtain ⟨i, e, hi, p⟩ := h
    have : n ≤ i := by simpa [List.drop_eq_nil_iff] using e.symm
    have : i = n := by omega
    subst this
    exact fin acc E p
end
/-! ## what is looked at, further -/
section
variable {α : Type}
theorem atI_get {xs : List α} {i : Int} {x : α} (h : 0 ≤ i) (e : xs[i.toNat]? = some x) : atI xs i = some x := by rw [atI_pos h]; exact e
theorem atI_map {β : Type} {f : α → β} {xs : List α} {i : Int} {x : α} (h : 0 ≤ i) (e : xs[i.toNat]? = some x) : atI (xs.map f) i = some (f x) := by
  rw [atI_pos h, List.getElem?_map, e]; rfl
theorem asBs_map {f : α → Bool} : ∀ xs : List α, asBs (xs.map fun x => D.bl (f x)) = some (xs.map f)
  | [] => rfl
  | x :: xs => by rw [List.map_cons, asBs, asBs_map xs]; rfl
theorem oAll_map {f : α → Bool} {xs : List α} : oAll [.lst (xs.map fun x => D.bl (f x))] = some (.bl (xs.all f)) := by
  unfold oAll; simp only [asBs_map]; simp [List.all_map]
theorem oAny_map {f : α → Bool} {xs : List α} : oAny [.lst (xs.map fun x => D.bl (f x))] = some (.bl (xs.any f)) := by
  unfold oAny; simp only [asBs_map]; simp [List.any_map]
theorem zipD_map {β : Type} {f : α → D} {h : β → D} (xs : List α) (ys : List β) : zipD (xs.map f) (ys.map h) = (xs.zip ys).map fun p => .tup [f p.1, h p.2] := by
  unfold zipD; rw [List.zip_map, List.map_map]; rfl
end

theorem x_slT {ds : List D} {lo hi : Option Int} : oSl (.tup ds) lo hi = some (.tup (cutL ds lo hi)) := rfl
theorem x_slL {ds : List D} {lo hi : Option Int} : oSl (.lst ds) lo hi = some (.lst (cutL ds lo hi)) := rfl
theorem x_slS {ns : List Int} {lo hi : Option Int} : oSl (.scr ns) lo hi = some (.lst (cutL (ns.map .int) lo hi)) := rfl
theorem cut_hi {α : Type} {xs : List α} {i : Int} (h : 0 ≤ i) : cutL xs none (some i) = xs.take i.toNat := by
  obtain ⟨n, rfl⟩ := Int.eq_ofNat_of_zero_le h
  unfold cutL; rw [HT.sIx_none, HT.sIx_nat]; simp
theorem cut_lo {α : Type} {xs : List α} {i : Int} (h : 0 ≤ i) : cutL xs (some i) none = xs.drop i.toNat := by
  obtain ⟨n, rfl⟩ := Int.eq_ofNat_of_zero_le h
  unfold cutL; rw [HT.sIx_none, HT.sIx_nat]
  by_cases hn : n ≤ xs.length
  · rw [Nat.min_eq_left hn, List.take_of_length_le (by simp)]; rfl
  · rw [Nat.min_eq_right (by omega), List.drop_length, List.take_nil, List.drop_eq_nil_of_le (by simp; omega)]
theorem cut_lohi {α : Type} {xs : List α} {i j : Int} (h : 0 ≤ i) (h2 : 0 ≤ j) : cutL xs (some i) (some j) = (xs.take j.toNat).drop i.toNat := by
  obtain ⟨n, rfl⟩ := Int.eq_ofNat_of_zero_le h
  obtain ⟨m, rfl⟩ := Int.eq_ofNat_of_zero_le h2
  unfold cutL; rw [HT.sIx_nat, HT.sIx_nat, List.drop_take]
  simp only [Int.toNat_natCast]
  by_cases hn : n ≤ xs.length
  · by_cases hm : m ≤ xs.length
    · rw [Nat.min_eq_left hn, Nat.min_eq_left hm]
    · rw [Nat.min_eq_left hn, Nat.min_eq_right (by omega), List.take_of_length_le (by simp), List.take_of_length_le (by simp; omega)]
  · rw [Nat.min_eq_right (by omega : xs.length ≤ n), List.drop_length, List.drop_eq_nil_of_le (by omega : xs.length ≤ n)]; simp
theorem x_itT {ds : List D} : itAny (.tup ds) = some ds := rfl
theorem x_itL {ds : List D} : itAny (.lst ds) = some ds := rfl
theorem x_itS {ns : List Int} : itAny (.scr ns) = some (ns.map .int) := rfl
open Classical in
theorem x_itR1 {j : Int} : itR [.int j] = if B62 j then some (rangeD 0 j.toNat) else none := rfl
open Classical in
theorem x_itR2 {i j : Int} : itR [.int i, .int j] = if B62 i ∧ B62 j then some (rangeD i (j - i).toNat) else none := rfl
theorem x_itZT {a b : List D} : itZ [.tup a, .tup b] = some (zipD a b) := rfl
theorem x_itZL {a b : List D} : itZ [.lst a, .lst b] = some (zipD a b) := rfl
theorem x_itET {a : List D} : itE [.tup a] = some (enumD 0 a) := rfl
theorem x_itEL {a : List D} : itE [.lst a] = some (enumD 0 a) := rfl
theorem x_app {ds : List D} {d : D} : mAppend (.lst ds) [d] = if ds.length < sizeLine then some (.non, .lst (ds ++ [d])) else none := rfl
/-! ## data of a kind, compared -/
structure Enc {α : Type} [DecidableEq α] (f : α → D) (n : Nat) : Prop where
  ex : ∃ g : α → PyData, ∀ a, toPy (f a) = some (g a) ∧ PyData.canLay0 (g a) = true ∧ PyData.depth (g a) ≤ n ∧ ∀ b, PyData.eqv (g a) (g b) = decide (a = b)
theorem toPyL_map {α : Type} {f : α → D} {g : α → PyData} (h : ∀ a, toPy (f a) = some (g a)) : ∀ xs : List α, toPyL (xs.map f) = some (xs.map g)
  | [] => rfl
  | x :: xs => by rw [List.map_cons, toPyL, h x, toPyL_map h xs]; rfl
theorem lay_map {α : Type} {g : α → PyData} (h : ∀ a, PyData.canLay0 (g a) = true) : ∀ xs : List α, PyData.canLayAll0 (xs.map g) = true
  | [] => rfl
  | x :: xs => by rw [List.map_cons, PyData.canLayAll0, h x, lay_map h xs]; rfl
theorem depth_map {α : Type} {g : α → PyData} {n : Nat} (h : ∀ a, PyData.depth (g a) ≤ n) : ∀ xs : List α, PyData.depthAll (xs.map g) ≤ n
  | [] => by simp [PyData.depthAll]
  | x :: xs => by rw [List.map_cons, PyData.depthAll]; exact Nat.max_le.mpr ⟨h x, depth_map h xs⟩
theorem eqv_map {α : Type} [DecidableEq α] {g : α → PyData} (h : ∀ a b, PyData.eqv (g a) (g b) = decide (a = b)) : ∀ xs ys : List α, PyData.eqvAll (xs.map g) (ys.map g) = decide (xs = ys)
  | [], [] => by rfl
  | [], y :: ys => by simp [PyData.eqvAll]
  | x :: xs, [] => by simp [PyData.eqvAll]
  | x :: xs, y :: ys => by rw [List.map_cons, List.map_cons, PyData.eqvAll, h x y, eqv_map h xs ys]; simp
theorem Enc.eq {α : Type} [DecidableEq α] {f : α → D} {n : Nat} (h : Enc f n) (hn : n ≤ 60) (a b : α) : oEq (f a) (f b) = some (.bl (decide (a = b))) := by
  obtain ⟨g, hg⟩ := h.ex
  unfold oEq dEq
  rw [(hg a).1, (hg b).1]
  have ha : SeqAt.shaped (g a) = true := by unfold SeqAt.shaped; rw [(hg a).2.1, decide_eq_true (Nat.le_trans (hg a).2.2.1 (by omega))]; rfl
  have hb : SeqAt.shaped (g b) = true := by unfold SeqAt.shaped; rw [(hg b).2.1, decide_eq_true (Nat.le_trans (hg b).2.2.1 (by omega))]; rfl
  simp only
  rw [if_pos ⟨ha, hb⟩, (hg a).2.2.2 b]; rfl
theorem Enc.ne {α : Type} [DecidableEq α] {f : α → D} {n : Nat} (h : Enc f n) (hn : n ≤ 60) (a b : α) : oNe (f a) (f b) = some (.bl (!decide (a = b))) := by
  have e := h.eq hn a b
  unfold oEq at e
  unfold oNe
  cases z : dEq (f a) (f b) with
  | none => rw [z] at e; cases e
  | some k => rw [z] at e; cases e; rfl
theorem Enc.anyIn {α : Type} [DecidableEq α] {g : α → PyData} {a : α} (h : ∀ a b, PyData.eqv (g a) (g b) = decide (a = b)) : ∀ xs : List α, ((xs.map g).any fun z => PyData.eqv z (g a)) = decide (a ∈ xs)
  | [] => by simp
  | x :: xs => by
    rw [List.map_cons, List.any_cons, Enc.anyIn h xs, h x a]
    by_cases e : x = a
    · subst e; simp
    · simp [e, Ne.symm e]
theorem Enc.inL {α : Type} [DecidableEq α] {f : α → D} {n : Nat} (h : Enc f n) (hn : n ≤ 50) (a : α) (xs : List α) : dIn (f a) (.lst (xs.map f)) = some (decide (a ∈ xs)) := by
  obtain ⟨g, hg⟩ := h.ex
  unfold dIn
  simp only [(hg a).1, toPyL_map (fun a => (hg a).1)]
  have ha : SeqAt.shaped (g a) = true := by unfold SeqAt.shaped; rw [(hg a).2.1, decide_eq_true (Nat.le_trans (hg a).2.2.1 (by omega))]; rfl
  have hb : SeqAt.shaped (.list (xs.map g)) = true := by
    unfold SeqAt.shaped PyData.canLay0 PyData.depth
    rw [lay_map (fun a => (hg a).2.1)]
    have := depth_map (fun a => (hg a).2.2.1) xs
    rw [decide_eq_true (by omega)]; rfl
  rw [if_pos ⟨ha, hb⟩, Enc.anyIn (fun a b => (hg a).2.2.2 b)]
theorem Enc.inT {α : Type} [DecidableEq α] {f : α → D} {n : Nat} (h : Enc f n) (hn : n ≤ 50) (a : α) (xs : List α) : dIn (f a) (.tup (xs.map f)) = some (decide (a ∈ xs)) := h.inL hn a xs
theorem Enc.oInL {α : Type} [DecidableEq α] {f : α → D} {n : Nat} (h : Enc f n) (hn : n ≤ 50) (a : α) (xs : List α) : oIn (f a) (.lst (xs.map f)) = some (.bl (decide (a ∈ xs))) := by unfold oIn; rw [h.inL hn]; rfl
theorem Enc.oInT {α : Type} [DecidableEq α] {f : α → D} {n : Nat} (h : Enc f n) (hn : n ≤ 50) (a : α) (xs : List α) : oIn (f a) (.tup (xs.map f)) = some (.bl (decide (a ∈ xs))) := by unfold oIn; rw [h.inT hn]; rfl
theorem Enc.oNotInL {α : Type} [DecidableEq α] {f : α → D} {n : Nat} (h : Enc f n) (hn : n ≤ 50) (a : α) (xs : List α) : oNotIn (f a) (.lst (xs.map f)) = some (.bl (!decide (a ∈ xs))) := by unfold oNotIn; rw [h.inL hn]; rfl
theorem Enc.oNotInT {α : Type} [DecidableEq α] {f : α → D} {n : Nat} (h : Enc f n) (hn : n ≤ 50) (a : α) (xs : List α) : oNotIn (f a) (.tup (xs.map f)) = some (.bl (!decide (a ∈ xs))) := by unfold oNotIn; rw [h.inT hn]; rfl
theorem Enc.tup {α : Type} [DecidableEq α] {f : α → D} {n : Nat} (h : Enc f n) : Enc (fun xs : List α => D.tup (xs.map f)) (n + 1) := by
  obtain ⟨g, hg⟩ := h.ex
  refine ⟨fun xs => .tuple (xs.map g), fun xs => ⟨?_, ?_, ?_, fun ys => ?_⟩⟩
  · unfold toPy; rw [toPyL_map (fun a => (hg a).1)]; rfl
  · unfold PyData.canLay0; exact lay_map (fun a => (hg a).2.1) xs
  · have := depth_map (fun a => (hg a).2.2.1) xs
    unfold PyData.depth; omega
  · unfold PyData.eqv; exact eqv_map (fun a b => (hg a).2.2.2 b) xs ys
theorem Enc.lst {α : Type} [DecidableEq α] {f : α → D} {n : Nat} (h : Enc f n) : Enc (fun xs : List α => D.lst (xs.map f)) (n + 1) := by
  obtain ⟨g, hg⟩ := h.ex
  refine ⟨fun xs => .list (xs.map g), fun xs => ⟨?_, ?_, ?_, fun ys => ?_⟩⟩
  · unfold toPy; rw [toPyL_map (fun a => (hg a).1)]; rfl
  · unfold PyData.canLay0; exact lay_map (fun a => (hg a).2.1) xs
  · have := depth_map (fun a => (hg a).2.2.1) xs
    unfold PyData.depth; omega
  · unfold PyData.eqv; exact eqv_map (fun a b => (hg a).2.2.2 b) xs ys
theorem Enc.int : Enc D.int 0 := ⟨fun i => .int i, fun a => ⟨rfl, rfl, Nat.le_refl _, fun b => by unfold PyData.eqv; exact rfl⟩⟩
def oD : Option Int → D
  | none => .non
  | some i => .int i
def oPy : Option Int → PyData
  | none => .none
  | some i => .int i
theorem Enc.opt : Enc oD 0 := ⟨oPy, fun a => ⟨by cases a <;> rfl, by cases a <;> rfl, by cases a <;> exact Nat.le_refl _, fun b => by
  cases a <;> cases b <;> simp [oPy, PyData.eqv]
  rename_i a b
  by_cases h : a = b <;> simp [h]⟩⟩
abbrev L3 := Int × Int × Int
def lD (l : L3) : D := .tup [.int l.1, .int l.2.1, .int l.2.2]
theorem Enc.l3 : Enc lD 1 := ⟨fun l => .tuple [.int l.1, .int l.2.1, .int l.2.2], fun a => ⟨rfl, rfl, by simp [PyData.depth, PyData.depthAll], fun b => by
  obtain ⟨a1, a2, a3⟩ := a
  obtain ⟨b1, b2, b3⟩ := b
  simp only [PyData.eqv, PyData.eqvAll, Bool.and_true, Prod.mk.injEq]
  by_cases h1 : a1 = b1 <;> by_cases h2 : a2 = b2 <;> by_cases h3 : a3 = b3 <;> simp [h1, h2, h3]⟩⟩

/-! ## instances -/
def rSF (s : Option Sl) (f : Str) (d : D) : Option Sl := match s with
  | some s => match s.cell with
    | some (.ins c ns ds) => if ns.length < 900 then some (s.put (.ins c (putN f ns) (putD f d ns ds))) else none
    | _ => none
  | none => none
def mkK (Q : D → Nv → Prop) (_ : Tg Q) (n : Nat) (d : D) (E : Nv) : Prop := d = .non ∧ ∃ x, E[n]? = some (.own x) ∧ Q x (E.take n)
def mkK2 (Q : D → Nv → Prop) (_ : Tg Q) (s : Option Sl) (E : Nv) : Prop := ∃ x, s = some (.own x) ∧ Q x E
def eqK (N c : Nat) (fn : Fn) (a b : Ar) (Q : D → Nv → Prop) (_ : Tg (fn, Q)) (E : Nv) (x y : Option D) : Prop := match x, y with
  | some (.ins c1 _ _), some y => c1 = c ∧ eqKind N c y = true ∧ calK fn [a, b] (fun d E2 => run (fun k E3 => Q (.bl k) E3) () (R.some (asB d) E2)) () E (lend E 0 [a, b])
  | _, _ => False
section
variable {E : Nv} {QD : D → Nv → Prop} {QS : Fl → Nv → Prop} {fa fb : Nv → R Ar} {fl : Nv → R (List Ar)} {f : Nv → R D} {i c N : Nat} {fn : Fn} {d : D} {a b : Ar}
theorem x_fSetFld' {n : Str} {g : Tg QS} : run QS g (fSetFld i n f E) = run (fun d E1 => run (fun _ E2 => run (fun x E3 => QS .nx (E3.set i x)) () (R.some (rSF E2[i]? n d) E2)) () (fPk i E1)) () (f E) := by
  rw [x_fSetFld]; unfold run; congr; funext d E1; congr; funext a E2
  unfold setFld rSF
  cases E2[i]? with
  | none => rfl
  | some s =>
    cases z : s.cell with
    | none => simp [z, R.some, wp]
    | some c =>
      cases c <;> simp [z, R.some, wp]
      rename_i ns ds
      by_cases h : ns.length < 900 <;> simp [h]
theorem rSF_bor {k : Nat} {n : Str} {c : Nat} {ns : List Str} {ds : List D} : rSF (some (.bor k (.ins c ns ds))) n d = if ns.length < 900 then some (.bor k (.ins c (putN n ns) (putD n d ns ds))) else none := rfl
theorem rSF_own {n : Str} {c : Nat} {ns : List Str} {ds : List D} : rSF (some (.own (.ins c ns ds))) n d = if ns.length < 900 then some (.own (.ins c (putN n ns) (putD n d ns ds))) else none := rfl
theorem run_resC {fn : Fn} {as : List Ar} {g : Tg QD} : run QD g (resC fn as E) = calK fn as QD () E (lend E 0 as) := by
  unfold run calK
  cases z : lend E 0 as with
  | none => simp [resC, z, wp]
  | some xs =>
    by_cases ho : once as = true
    · rw [wp_resC z ho]; simp [ho]
    · simp [resC, z, ho, wp]
theorem x_fMake {g : Tg QD} : run QD g (fMake c fn fl E) = run (fun as E1 => calK fn (.pk E1.length :: as) (mkK QD () E1.length) () (E1 ++ [.own (.ins c [] [])]) (lend (E1 ++ [.own (.ins c [] [])]) 0 (.pk E1.length :: as))) () (fl E) := by
  unfold run fMake
  rw [wp_bind]; congr; funext as E1
  rw [← run_resC (g := ())]
  unfold run resMk
  cases resC fn (.pk E1.length :: as) (E1 ++ [.own (.ins c [] [])]) with
  | bad => rfl
  | exc _ _ _ => rfl
  | val d E2 =>
    unfold mkK
    simp only [wp]
    cases d with
    | non =>
      simp only
      cases E2[E1.length]? with
      | none => simp [wp]
      | some s => cases s <;> simp [wp]
    | _ => simp [wp]
theorem mkK_s {n : Nat} {g : Tg QD} : mkK QD g n .non E = mkK2 QD () E[n]? (E.take n) := by unfold mkK mkK2; simp
theorem mkK2_s {g : Tg QD} : mkK2 QD g (some (.own d)) E = QD d E := by unfold mkK2; simp
theorem x_fEqI {g : Tg QD} : run QD g (fEqI N c fn fa fb E) = run (fun a E1 => run (fun b E2 => eqK N c fn a b QD () E2 (a.get E2) (b.get E2)) () (fb E1)) () (fa E) := by
  unfold run fEqI
  simp only [wp_bind]
  congr; funext a E1; congr; funext b E2
  unfold resEq eqK
  cases a.get E2 with
  | none => rfl
  | some x =>
    cases b.get E2 with
    | none => cases x <;> rfl
    | some y =>
      cases x <;> try rfl
      rename_i c1 _ _
      simp only
      by_cases h1 : c1 = c
      · by_cases h2 : eqKind N c y = true
        · simp only [h1, h2, and_self, if_true, true_and]
          rw [← run_resC (g := ())]
          unfold run
          rw [wp_bind, wp_nox]
          congr; funext d E3
          cases asB d <;> rfl
        · simp [h1, h2, wp]
      · simp [h1, wp]
theorem eqK_s {g : Tg (fn, QD)} {n1 : List Str} {d1 : List D} {y : D} (h : eqKind N c y = true) : eqK N c fn a b QD g E (some (.ins c n1 d1)) (some y) = calK fn [a, b] (fun d E2 => run (fun k E3 => QD (.bl k) E3) () (R.some (asB d) E2)) () E (lend E 0 [a, b]) := by
  unfold eqK; simp [h]
theorem ek_ins {ns : List Str} {ds : List D} : eqKind N c (.ins c ns ds) = true := by simp [eqKind]
theorem ek_non : eqKind N c .non = true := rfl
theorem ek_bl {b : Bool} : eqKind N c (.bl b) = true := rfl
theorem ek_int {b : Int} : eqKind N c (.int b) = true := rfl
theorem ek_str {b : Str} : eqKind N c (.str b) = true := rfl
theorem ek_tup {b : List D} : eqKind N c (.tup b) = true := rfl
theorem ek_lst {b : List D} : eqKind N c (.lst b) = true := rfl
end
theorem cut_nat {α : Type} {xs : List α} {n : Nat} : cutL xs none (some (n : Int)) = xs.take n := cut_hi (by omega)
theorem take_map' {α β : Type} {f : α → β} {xs : List α} {n : Nat} : (xs.map f).take n = (xs.take n).map f := List.map_take.symm
theorem drop_map' {α β : Type} {f : α → β} {xs : List α} {n : Nat} : (xs.map f).drop n = (xs.drop n).map f := List.map_drop.symm
theorem set_map' {α β : Type} {f : α → β} {xs : List α} {n : Nat} {x : α} {y : β} (h : f x = y) : (xs.map f).set n y = (xs.set n x).map f := by rw [← h, List.map_set]
theorem rep_flat {α : Type} {n : Nat} {x : α} : (List.replicate n [x]).flatten = List.replicate n x := by
  induction n with
  | zero => rfl
  | succ n ih => rw [List.replicate_succ, List.flatten_cons, ih]; rfl
theorem lD0 {l : L3} : oIx (lD l) (.int 0) = some (.int l.1) := rfl
theorem lD1 {l : L3} : oIx (lD l) (.int 1) = some (.int l.2.1) := rfl
theorem lD2 {l : L3} : oIx (lD l) (.int 2) = some (.int l.2.2) := rfl
theorem oD_n : oD none = .non := rfl
theorem oD_s {i : Int} : oD (some i) = .int i := rfl
theorem x_bTup3 {bs : List Bd} {l : L3} {E : Nv} : bTup bs (lD l) E = bAll bs [.int l.1, .int l.2.1, .int l.2.2] E := rfl
theorem itR_int {j : Int} (h0 : 0 ≤ j) (h : j ≤ 1000000) : itR [.int j] = some (rangeD 0 j.toNat) := by
  rw [x_itR1, if_pos]; rw [B62_def]; omega
theorem itR_nat {n : Nat} (h : n ≤ 1000000) : itR [.int (n : Int)] = some (rangeD 0 n) := by rw [itR_int (by omega) (by omega)]; rfl
theorem itR_two {i j : Int} (h0 : 0 ≤ i) (h : i ≤ 1000000) (h1 : 0 ≤ j) (h2 : j ≤ 1000000) : itR [.int i, .int j] = some (rangeD i (j - i).toNat) := by
  rw [x_itR2, if_pos]; rw [B62_def, B62_def]; omega
theorem rTL {x : D} : rIsT (some x) (some [.ty "tuple", .ty "list"]) = (tyName x).bind fun t => some (.bl (subTy t "tuple" || subTy t "list")) := by
  have h2 : (2 : Nat) ≤ sizeLine := sl16 (by omega)
  have ht : tyNames [.ty "tuple", .ty "list"] = some ["tuple", "list"] := by
    unfold tyNames tyNames tyNames
    simp only [tgs_tuple, tgs_list, if_true]
  unfold rIsT
  simp only
  cases tyName x with
  | none => rfl
  | some t => simp [ht, h2]
def nxK (M : Nv → Prop) (_ : Tg M) (fl : Fl) (E : Nv) : Prop := match fl with
  | .nx => M E
  | _ => False
theorem nxK_nx {M : Nv → Prop} {g : Tg M} {E : Nv} : nxK M g .nx E = M E := rfl
/-- what holds between two statements -/
theorem seq_cut {s t : Nv → R Fl} {Q : Fl → Nv → Prop} {E : Nv} (M : Nv → Prop) (h1 : run (nxK M ()) () (s E)) (h2 : ∀ E, M E → run Q () (t E)) : run Q () (fSeq s t E) := by
  rw [x_seq]
  refine wp_imp h1 fun fl E1 q => ?_
  cases fl with
  | nx => exact h2 E1 q
  | _ => exact q.elim
theorem call_byN {fn : Fn} {as : List Sl} {Q P : D → List Sl → Prop} {g : Tg Q} (h : wpN (fn as) P) (k : ∀ d bs, P d bs → Q d bs) : runN Q g (fn as) := by
  unfold runN
  cases z : fn as with
  | new d bs => rw [z] at h; exact k d bs h
  | val _ _ => rw [z] at h; exact h
  | exc _ _ _ => rw [z] at h; exact h
  | bad => rw [z] at h; exact h
end FL

namespace FL
open PySem PySem.Spec PyProof.Rows L2

/-! ## raising an own exception of one field -/
def fRaise1 (c : Nat) (n : Str) (f : Nv → R D) : Nv → R Fl := fun E => (f E).bind fun d E1 => .exc c (some (n, d)) E1
def spI (K : PySem.W.Frag) (n : Str) : Sp := fun vs H Q _ => ∃ (a C : Addr) (v : V), vs = [.ref a, v] ∧ OexC K C ∧ PySem.W.findIn K (.ref C) n = some none ∧ H a = some (exo a C none) ∧
  ∀ dx, H dx = none → dx ≠ a → Q .non (upd (upd H dx (exd dx [(n, v)])) a (exo a C (some dx)))
theorem spI_len {K : PySem.W.Frag} {n : Str} {vs : List V} {H : Hp} {Q : VK} {E : XK} (h : spI K n vs H Q E) : vs.length = 2 := by
  obtain ⟨_, _, _, rfl, _⟩ := h; rfl
theorem init_read {K : PySem.W.Frag} {n : Str} {N : List Str} {vs : List V} {H : Hp} {Q : VK} {E : XK} (h : spI K n vs H Q E) : tOst K n (tVar 0) (tVar 1) { nx := fun _ H' => Q .non H', rt := Q } (L2.start N vs) H := by
  obtain ⟨a, C, v, rfl, T, hno, ha, q⟩ := h
  exact ⟨v, rfl, .ref a, rfl, a, C, rfl, T, hno, .inl ⟨ha, q⟩⟩
section
variable {X : Cx} {g : Gm} {W : WX} {e : Expr} {p pos pos2 : Pos}
theorem passF {X : Cx} : Passes (L2.CX X.prog X.w) X (fun _ _ _ => False) := fun _ _ _ _ _ _ I c => takes0 _ _ (XE.of_call I (fun _ _ _ h => h) c)
theorem oex_heap {H1 : Hp} {a C dx : Addr} {n : Str} {v : V} (ha : H1 a = none) (h1 : H1 dx = none) (h2 : dx ≠ a) :
    upd (del (upd (upd (upd H1 a (exo a C none)) dx (exd dx [(n, v)])) a (exo a C (some dx))) a) dx (.xd [(n, v)]) = upd H1 dx (.xd [(n, v)]) := by
  funext b
  by_cases hb : b = dx
  · rw [hb, upd_same, upd_same]
  · rw [upd_ne hb, upd_ne hb]
    by_cases hba : b = a
    · rw [hba, del_same, ha]
    · rw [del_ne hba, upd_ne hba, upd_ne hb, upd_ne hba]
theorem fs_raise1 {c : Nat} {n x : Str} {f : Nv → R D} {fI : Addr} {k : Nat} {fd : FuncData} {ps : List Str} (hc : X.calm = true) (tk : Takes X W) (T : OexC X.K (g.xcl c)) (iC : PySem.W.findIn X.K (.ref (g.xcl c)) "__init__" = some (some (.ref fI)))
    (tI : PySem.W.typeIn X.K (.ref fI) = some (.type "function")) (hno : PySem.W.findIn X.K (.ref (g.xcl c)) n = some none) (F1 : FnOk X.prog X.w X.K X.mg X.base (L2.CX X.prog X.w) k fI fd ps (spI X.K n)) (hr : Room (k + 1) X.A) (hb : Binds X.K fd ps [])
    (hg : Gl X x) (hm : X.mg x = some (.ref (g.xcl c))) (ha : FE X g W e f) (hdb : (x == ("__debug__" : Str)) = false := by decide)
    (he : starEach (e :: []) X.env = (false, eval e X.env) :: starEach [] X.env := by rfl) (hpl : (backTo pos (starEach [] X.env)).any (·.1) = false := by rfl) :
    FS X g W (.Raise (some (.Call (.Name x p) (e :: []) [] pos)) none pos2) (fRaise1 c n f) :=
  psImp (ps_raise hc tk (pmk_oex T iC tI F1 hr hb .nil passF hg hm (pa_cons ha pa_nil he) hdb he hpl)) fun D σ H ⟨ρ, G, E, F, st, q⟩ => by
    refine bindS st q fun d E1 v F1 H1 st1 s1 r1 q1 => ?_
    refine ⟨by simp, fun a ha => ⟨a, g.xcl c, v, rfl, T, hno, upd_same, fun dx h1 h2 => ?_⟩⟩
    have h1' : H1 dx = none := by rw [upd_ne h2] at h1; exact h1
    refine ⟨rfl, dx, [(n, v)], upd_same, ?_, h1', ?_⟩
    · rw [upd_ne h2, upd_same]
    · rw [oex_heap ha h1' h2]
      have hF := st1.fF h1'
      exact q1 (some dx) σ (upd F1 dx (.xd [(n, v)])) (upd H1 dx (.xd [(n, v)])) (st1.grow h1' _) (Same.new hF) ⟨dx, v, rfl, upd_same, r1.mono (Same.new hF)⟩
end

/-! ## a caught exception's expressions: c its class, fs its field -/
abbrev Xv := Nat → Option (Str × D) → Option D
def tX (g : Gm) (i : Nat) (a : Addr) (cls : Value) (d : Option Addr) (v : Xv) : TE := fun σ H Q => ∃ ρ G E F c fs, StOk g ρ G E F σ H ∧ σ[i]? = some (some (.ref a)) ∧ cls = .ref (g.xcl c) ∧ XRep g F fs d ∧
  ∃ z, v c fs = some z ∧ ∀ u F' H', StOk g ρ G E F' σ H' → Same F F' → Rep g F' z u → Q u H'
def tXs (g : Gm) (i : Nat) (a : Addr) (cls : Value) (d : Option Addr) (v : Nat → Option (Str × D) → Option (List D)) : TA := fun σ H Q => ∃ ρ G E F c fs, StOk g ρ G E F σ H ∧ σ[i]? = some (some (.ref a)) ∧ cls = .ref (g.xcl c) ∧ XRep g F fs d ∧
  ∃ z, v c fs = some z ∧ ∀ u F' H', StOk g ρ G E F' σ H' → Same F F' → RepL g F' z u → Q u H'
def tXb (g : Gm) (i : Nat) (a : Addr) (cls : Value) (d : Option Addr) (v : Nat → Option (Str × D) → Option Bool) : TT := fun σ H Q => ∃ ρ G E F c fs, StOk g ρ G E F σ H ∧ σ[i]? = some (some (.ref a)) ∧ cls = .ref (g.xcl c) ∧ XRep g F fs d ∧
  ∃ z, v c fs = some z ∧ ∀ F' H', StOk g ρ G E F' σ H' → Same F F' → Q z H'
def xC (z : D) : Xv := fun _ _ => some z
def xFld (c0 : Nat) (n : Str) : Xv := fun c fs => if c = c0 then (match fs with
  | some (m, x) => if m = n then some x else none
  | none => none) else none
def xIs (k : Nat → Bool) : Xv := fun c _ => some (.bl (k c))
def xAnd (a b : Xv) : Xv := fun c fs => match a c fs with
  | some (.bl true) => b c fs
  | some (.bl false) => some (.bl false)
  | _ => none
def xB (a : Xv) : Nat → Option (Str × D) → Option Bool := fun c fs => (a c fs).bind asB
def xAndB (a b : Nat → Option (Str × D) → Option Bool) : Nat → Option (Str × D) → Option Bool := fun c fs => match a c fs with
  | some true => b c fs
  | some false => some false
  | none => none
def xIf (t : Nat → Option (Str × D) → Option Bool) (a b : Xv) : Xv := fun c fs => match t c fs with
  | some true => a c fs
  | some false => b c fs
  | none => none
def xNil : Nat → Option (Str × D) → Option (List D) := fun _ _ => some []
def xCons (a : Xv) (b : Nat → Option (Str × D) → Option (List D)) : Nat → Option (Str × D) → Option (List D) := fun c fs => match a c fs, b c fs with
  | some x, some xs => some (x :: xs)
  | _, _ => none
def xTup (a : Nat → Option (Str × D) → Option (List D)) : Xv := fun c fs => match a c fs with
  | some xs => if xs.length ≤ sizeLine then some (.tup xs) else none
  | none => none
def xLst (a : Nat → Option (Str × D) → Option (List D)) : Xv := fun c fs => match a c fs with
  | some xs => if xs.length ≤ sizeLine then some (.lst xs) else none
  | none => none
section
variable {Y : Cx} {g : Gm} {i : Nat} {a : Addr} {cls : Value} {d : Option Addr} {e e2 e3 : Expr} {es : List Expr} {pos : Pos}
theorem sx_c {u : V} (h : PE Y e (tC u)) (z : D) (r : ∀ F, Rep g F z u) : PE Y e (tX g i a cls d (xC z)) := peImp h fun σ H Q ⟨ρ, G, E, F, c, fs, st, hs, hc, hx, z', hz, q⟩ => by
  cases hz
  exact q u F H st (Same.refl _) (r F)
theorem sx_and {v w : Xv} {rest : List Expr} (h1 : PE Y e (tX g i a cls d v)) (h2 : PE Y (.BoolOp .And (e2 :: rest) pos) (tX g i a cls d w)) : PE Y (.BoolOp .And (e :: e2 :: rest) pos) (tX g i a cls d (xAnd v w)) :=
  peImp (pe_and h1 h2) fun σ H Q ⟨ρ, G, E, F, c, fs, st, hs, hc, hx, z, hz, q⟩ => by
    unfold xAnd at hz
    cases hv : v c fs with
    | none => simp [hv] at hz
    | some y =>
      cases y with
      | bl b =>
        refine ⟨ρ, G, E, F, c, fs, st, hs, hc, hx, _, hv, fun u F1 H1 st1 s1 r1 => ?_⟩
        obtain rfl : u = .bl b := r1
        refine ⟨b, rfl, ?_⟩
        cases b with
        | true =>
          rw [if_pos rfl]
          simp only [hv] at hz
          exact ⟨ρ, G, E, F1, c, fs, st1, hs, hc, hx.mono s1, z, hz, fun u F2 H2 st2 s2 r2 => q u F2 H2 st2 (s1.trans s2) r2⟩
        | false =>
          rw [if_neg Bool.false_ne_true]
          simp only [hv] at hz
          cases hz
          exact q _ F1 H1 st1 s1 rfl
      | _ => simp [hv] at hz
theorem sb_val {v : Xv} (h : PT Y e (tB (tX g i a cls d v))) : PT Y e (tXb g i a cls d (xB v)) := ptImp h fun σ H Q ⟨ρ, G, E, F, c, fs, st, hs, hc, hx, z, hz, q⟩ => by
  unfold xB at hz
  cases hv : v c fs with
  | none => simp [hv] at hz
  | some y =>
    refine ⟨ρ, G, E, F, c, fs, st, hs, hc, hx, _, hv, fun u F1 H1 st1 s1 r1 => ?_⟩
    cases y with
    | bl b =>
      obtain rfl : u = .bl b := r1
      simp only [hv, Option.bind_some, asB, Option.some.injEq] at hz
      subst hz
      exact ⟨_, rfl, q F1 H1 st1 s1⟩
    | _ => simp [hv, asB] at hz
theorem sw_and {v w : Nat → Option (Str × D) → Option Bool} {rest : List Expr} (h1 : PT Y e (tXb g i a cls d v)) (h2 : PW Y (.BoolOp .And (e2 :: rest) pos) (tXb g i a cls d w)) : PW Y (.BoolOp .And (e :: e2 :: rest) pos) (tXb g i a cls d (xAndB v w)) :=
  pwImp (pw_and h1 h2) fun σ H Q ⟨ρ, G, E, F, c, fs, st, hs, hc, hx, z, hz, q⟩ => by
    unfold xAndB at hz
    cases hv : v c fs with
    | none => simp [hv] at hz
    | some b =>
      refine ⟨ρ, G, E, F, c, fs, st, hs, hc, hx, _, hv, fun F1 H1 st1 s1 => ?_⟩
      cases b with
      | true =>
        rw [if_pos rfl]
        simp only [hv] at hz
        exact ⟨ρ, G, E, F1, c, fs, st1, hs, hc, hx.mono s1, z, hz, fun F2 H2 st2 s2 => q F2 H2 st2 (s1.trans s2)⟩
      | false =>
        rw [if_neg Bool.false_ne_true]
        simp only [hv] at hz
        cases hz
        exact q F1 H1 st1 s1
theorem sx_if {t : Nat → Option (Str × D) → Option Bool} {v w : Xv} (ht : PT Y e (tXb g i a cls d t)) (h1 : PE Y e2 (tX g i a cls d v)) (h2 : PE Y e3 (tX g i a cls d w)) : PE Y (.IfExp e e2 e3 pos) (tX g i a cls d (xIf t v w)) :=
  peImp (pe_ifExp ht h1 h2) fun σ H Q ⟨ρ, G, E, F, c, fs, st, hs, hc, hx, z, hz, q⟩ => by
    unfold xIf at hz
    cases hv : t c fs with
    | none => simp [hv] at hz
    | some b =>
      refine ⟨ρ, G, E, F, c, fs, st, hs, hc, hx, _, hv, fun F1 H1 st1 s1 => ?_⟩
      simp only [hv] at hz
      cases b with
      | true =>
        rw [if_pos rfl]
        exact ⟨ρ, G, E, F1, c, fs, st1, hs, hc, hx.mono s1, z, hz, fun u F2 H2 st2 s2 r2 => q u F2 H2 st2 (s1.trans s2) r2⟩
      | false =>
        rw [if_neg Bool.false_ne_true]
        exact ⟨ρ, G, E, F1, c, fs, st1, hs, hc, hx.mono s1, z, hz, fun u F2 H2 st2 s2 r2 => q u F2 H2 st2 (s1.trans s2) r2⟩
theorem sxs_nil : PA Y [] (tXs g i a cls d xNil) := paImp pa_nil fun σ H Q ⟨ρ, G, E, F, c, fs, st, hs, hc, hx, z, hz, q⟩ => by
  cases hz
  exact q [] F H st (Same.refl _) rfl
theorem sxs_cons {v : Xv} {w : Nat → Option (Str × D) → Option (List D)} (h : PE Y e (tX g i a cls d v)) (k : PA Y es (tXs g i a cls d w)) (hs : starEach (e :: es) Y.env = (false, eval e Y.env) :: starEach es Y.env := by rfl) :
    PA Y (e :: es) (tXs g i a cls d (xCons v w)) := paImp (pa_cons h k hs) fun σ H Q ⟨ρ, G, E, F, c, fs, st, hs, hc, hx, z, hz, q⟩ => by
  unfold xCons at hz
  cases hv : v c fs with
  | none => simp [hv] at hz
  | some y =>
    cases hw : w c fs with
    | none => simp [hv, hw] at hz
    | some ys =>
      simp only [hv, hw, Option.some.injEq] at hz
      subst hz
      refine ⟨ρ, G, E, F, c, fs, st, hs, hc, hx, _, hv, fun u F1 H1 st1 s1 r1 => ?_⟩
      exact ⟨ρ, G, E, F1, c, fs, st1, hs, hc, hx.mono s1, _, hw, fun us F2 H2 st2 s2 r2 => q (u :: us) F2 H2 st2 (s1.trans s2) ⟨u, us, rfl, r1.mono s2, r2⟩⟩
theorem sx_tup {w : Nat → Option (Str × D) → Option (List D)} {x1} (h : PA Y es (tXs g i a cls d w)) : PE Y (.Tuple es x1 pos) (tX g i a cls d (xTup w)) := peImp (pe_tup h) fun σ H Q ⟨ρ, G, E, F, c, fs, st, hs, hc, hx, z, hz, q⟩ => by
  unfold xTup at hz
  cases hw : w c fs with
  | none => simp [hw] at hz
  | some ys =>
    simp only [hw] at hz
    obtain ⟨hl, rfl⟩ := iteSome hz
    refine ⟨ρ, G, E, F, c, fs, st, hs, hc, hx, _, hw, fun us F1 H1 st1 s1 r1 => ⟨by rw [← r1.length]; exact hl, fun p hp => ?_⟩⟩
    have hf := st1.fF hp
    exact q _ _ _ (st1.grow hp _) (s1.trans (Same.new hf)) ⟨p, us, rfl, .inl (.inl upd_same), r1.mono (Same.new hf)⟩
theorem sx_lst {w : Nat → Option (Str × D) → Option (List D)} (h : PA Y es (tXs g i a cls d w)) : PE Y (.List es pos) (tX g i a cls d (xLst w)) := peImp (pe_lst h) fun σ H Q ⟨ρ, G, E, F, c, fs, st, hs, hc, hx, z, hz, q⟩ => by
  unfold xLst at hz
  cases hw : w c fs with
  | none => simp [hw] at hz
  | some ys =>
    simp only [hw] at hz
    obtain ⟨hl, rfl⟩ := iteSome hz
    refine ⟨ρ, G, E, F, c, fs, st, hs, hc, hx, _, hw, fun us F1 H1 st1 s1 r1 => ⟨by rw [← r1.length]; exact hl, fun p hp => ?_⟩⟩
    have hf := st1.fF hp
    exact q _ _ _ (st1.grow hp _) (s1.trans (Same.new hf)) ⟨p, us, rfl, upd_same, r1.mono (Same.new hf)⟩
end
section
variable {X : Cx} {g : Gm} {i : Nat} {a : Addr} {oe : Obj} {cls : Value} {d : Option Addr} {pn : List (Addr × Obj)} {e e2 : Expr} {pos : Pos} {n : Str}
/-- e.f -/
theorem sx_fld {c0 : Nat} (T : XfC X.K (g.xcl c0)) (hno : PySem.W.findIn X.K (.ref (g.xcl c0)) n = some none) (hz : Zc cls d oe) (hf : ∃ vs, oe.data = .fields vs) (he : PE (X.suite a ((a, oe) :: pn)) e (tVar i))
    (hb : attributeBase e n X.env (eval e X.env) = eval e X.env := by rfl) : PE (X.suite a ((a, oe) :: pn)) (.Attribute e n pos) (tX g i a cls d (xFld c0 n)) :=
  peImp (pe_xf T hno hz hf he hb) fun σ H Q ⟨ρ, G, E, F, c, fs, st, hs, hc, hx, z, hz, q⟩ => by
    unfold xFld at hz
    by_cases hcc : c = c0
    · subst hcc
      rw [if_pos rfl] at hz
      cases fs with
      | none => cases hz
      | some p =>
        obtain ⟨m, x⟩ := p
        simp only at hz
        by_cases hm : m = n
        · subst hm
          rw [if_pos rfl] at hz
          cases hz
          obtain ⟨dd, v, rfl, hd, r⟩ := hx
          exact ⟨.ref a, hs, rfl, hc, dd, [(m, v)], v, rfl, st.sf _ _ hd, by simp [List.lookup], q v F H st (Same.refl _) r⟩
        · rw [if_neg hm] at hz; cases hz
    · rw [if_neg hcc] at hz; cases hz
/-- what the class of an exception must say for isinstance -/
structure ExcT (K : PySem.W.Frag) (C : Addr) : Prop where
  cl : (PySem.W.clsIn K C).isSome = true
  ga : PySem.W.findIn K (.ref C) "__getattribute__" = some (some (.builtin "BaseException.__getattribute__"))
  gt : PySem.W.findIn K (.ref C) "__getattr__" = some none
  sb : PySem.W.subIn K (.ref C) (.type "BaseException") = some true
  ca : PySem.W.findIn K (.ref C) "__class__" = some (some (.builtin "object.__class__"))
  cn : PySem.W.specialIn K (.builtin "object.__class__") "__get__" = some (some (.builtin "getset_descriptor.__get__"))
  ct : PySem.W.takesIn K (.builtin "object.__class__") = some true
  cm : PySem.W.mroIn K C (.type "object") = some true
def rIsX (K : PySem.W.Frag) (a C : Addr) (d : Option Addr) : List V → Hp → VK → Prop := fun xs H Q => ∃ (c : V) (cv : Value) (b : Bool), xs = [.ref a, c] ∧ (∀ u, RelV c u → u = cv) ∧ PySem.W.kitOne K (.ref C) cv = some b ∧ (∀ dd, d = some dd → ∃ fs, H dd = some (.xd fs)) ∧ Q (.bl b) H
theorem call_isX {C : Addr} (T : ExcT X.K C) (hz : Zc (.ref C) d oe) (hf : ∃ vs, oe.data = .fields vs) : CallR (X.suite a ((a, oe) :: pn)) (.builtin "isinstance") (rIsX X.K a C d) := by
  rintro pins s σ H xs us Q I r ⟨c, cv, b, rfl, hcv, hk, hd, q⟩
  obtain ⟨ua, ut, rfl, ra, rt⟩ : ∃ ua ut, us = [ua, ut] ∧ RelV (.ref a) ua ∧ RelV c ut := by
    cases r with
    | cons h1 h2 => cases h2 with
      | cons h3 h4 => cases h4; exact ⟨_, _, rfl, h1, h3⟩
  cases ra
  have et := hcv ut rt
  subst et
  have mem : (a, oe) ∈ ((a, oe) :: pn) ++ pins := List.mem_append_left _ (List.mem_cons_self ..)
  have hget := (I.pin (a, oe) mem).1
  obtain ⟨vs, hv⟩ := hf
  have nc : PySem.W.notCls oe = true := by unfold PySem.W.notCls; rw [hv] <;> rfl
  obtain ⟨od, J⟩ : ∃ od, PySem.W.InstAt s.heap a oe C od := by
    cases d with
    | none => exact ⟨none, hget, hz.1, nc, by rw [hz.2]; trivial⟩
    | some dd =>
      obtain ⟨fs, hdd⟩ := hd dd rfl
      obtain ⟨mA, hns, _⟩ := I.hok dd _ hdd
      obtain ⟨od, ho, _⟩ := lookIn_ns hns
      exact ⟨some od, hget, hz.1, nc, by rw [hz.2]; exact ho⟩
  exact PySem.W.kia_one (PySem.W.kitx_exc T.cl T.ga T.gt T.sb T.ca T.cn T.ct T.cm) I.kIn J hk (fun z => nomatch z) fun tk => ⟨.bl b, H, I.kept (t' := tk) fun _ _ z => z, rfl, q⟩
theorem sx_isi {x : Str} {p : Pos} {k : Nat → Bool} {cv : V} {cu : Value} (T : ∀ c, ExcT X.K (g.xcl c)) (hk : ∀ c, PySem.W.kitOne X.K (.ref (g.xcl c)) cu = some (k c)) (hcu : ∀ u, RelV cv u → u = cu) (hz : Zc cls d oe) (hf : ∃ vs, oe.data = .fields vs)
    (he : PE (X.suite a ((a, oe) :: pn)) e (tVar i)) (he2 : PE (X.suite a ((a, oe) :: pn)) e2 (tC cv)) (hg : Gl (X.suite a ((a, oe) :: pn)) x) (hm : X.mg x = none) (hv : bootBuiltins x = some (.builtin "isinstance"))
    (hn : x ≠ "__name__" := by decide) (hdb : (x == ("__debug__" : Str)) = false := by decide) 
    (h1 : starEach (e :: e2 :: []) X.env = (false, eval e X.env) :: starEach (e2 :: []) X.env := by rfl) (h2 : starEach (e2 :: []) X.env = (false, eval e2 X.env) :: starEach [] X.env := by rfl)
    (hpl : (backTo pos (starEach (e2 :: []) X.env)).any (·.1) = false := by rfl) : PE (X.suite a ((a, oe) :: pn)) (.Call (.Name x p) (e :: e2 :: []) [] pos) (tX g i a cls d (xIs k)) := by
  refine ⟨fun pins s σ H Q I h => ?_⟩
  obtain ⟨ρ, G, E, F, c, fs, st, hs, hc, hx, z, hz', q⟩ := h
  have hz2 : Zc (.ref (g.xcl c)) d oe := by rw [← hc]; exact hz
  refine (pe_callB (X := X.suite a ((a, oe) :: pn)) (call_isX (pn := pn) (T c) hz2 hf) hg hm hv (pa_cons he (pa_cons he2 pa_nil h2) h1) hn hdb h1 hpl).run pins s σ H Q I ?_
  refine ⟨.ref a, hs, cv, cu, k c, rfl, hcu, hk c, fun dd hd => ?_, ?_⟩
  · subst hd
    cases fs with
    | none => cases (show some dd = none from hx)
    | some p =>
      obtain ⟨m, y⟩ := p
      obtain ⟨a', v', e', hF, _⟩ := hx
      cases e'
      exact ⟨_, st.sf _ _ hF⟩
  · cases hz'
    exact q _ F H st (Same.refl _) rfl
end

/-! ## try: .. except X as n: one statement -/
def hRet (v : Xv) : Nat → Option (Str × D) → Nv → R Fl := fun c fs E => match v c fs with
  | some d => .val (.rt d) E
  | none => .bad
def hSet (j : Nat) (v : Xv) : Nat → Option (Str × D) → Nv → R Fl := fun c fs E => match v c fs with
  | some d => .val .nx (E.set j (.fz d))
  | none => .bad
def fTry1 (i : Nat) (tst : Nat → Bool) (body : Nv → R Fl) (h : Nat → Option (Str × D) → Nv → R Fl) : Nv → R Fl := fun E => match body E with
  | .exc c fs E1 => if tst c = true then (if i < E1.length then h c fs (E1.set i .no) else .bad) else .exc c fs E1
  | r => r
/-- what the suite may leave -/
def tH (g : Gm) (i : Nat) (a : Addr) (cls : Value) (d : Option Addr) (h : Nat → Option (Str × D) → Nv → R Fl) : TS := fun D σ H => ∃ ρ G E F c fs, StOk g ρ G E F σ H ∧ σ[i]? = some (some (.ref a)) ∧ cls = .ref (g.xcl c) ∧ XRep g F fs d ∧
  postS g W0 ρ G F D (h c fs E)
/-- a handler's end: it returns, or goes on with slot i forgotten -/
def Tame (i : Nat) (h : Nat → Option (Str × D) → Nv → R Fl) : Prop := ∀ (c : Nat) (fs : Option (Str × D)) (E : Nv), (∃ d E2, h c fs (E.set i .no) = .val (.rt d) E2) ∨ (∃ E2, h c fs (E.set i .no) = .val .nx E2 ∧ (E2[i]? = some .no ∨ E2[i]? = none)) ∨ h c fs (E.set i .no) = .bad
theorem tame_ret {i : Nat} {v : Xv} : Tame i (hRet v) := fun c fs E => by
  unfold hRet
  cases v c fs with
  | none => exact .inr (.inr rfl)
  | some d => exact .inl ⟨d, _, rfl⟩
theorem tame_set {i j : Nat} {v : Xv} (hij : j ≠ i) : Tame i (hSet j v) := fun c fs E => by
  unfold hSet
  cases v c fs with
  | none => exact .inr (.inr rfl)
  | some d =>
    refine .inr (.inl ⟨_, rfl, ?_⟩)
    rw [List.getElem?_set_ne hij]
    by_cases hi : i < E.length
    · exact .inl (List.getElem?_set_self hi)
    · exact .inr (by rw [List.getElem?_eq_none]; simpa using hi)
section
variable {X : Cx} {g : Gm} {W : WX} {x n : Str} {c : Value} {i : Nat} {body suite : List Stmt} {b₀ : Stmt} {np pos pos' : Pos}
theorem fs_try1 {tst : Nat → Bool} {sb : Nv → R Fl} {h : Nat → Option (Str × D) → Nv → R Fl} (hs : X.stack = X.env :: X.outer) (hf : X.env.frame = some X.env.locals) (hN : X.N.Nodup) (hi : X.N[i]? = some n) (hln : X.env.kindOf n = some .local) (hc : Names X x c) (tk : Takes X W)
    (ht : ∀ k, PySem.W.exmOne X.K (.ref (g.xcl k)) c = some (tst k)) (tame : Tame i h)
    (hb : ∀ (W' : WX) (pn : List (Addr × Obj)) (xe : Value → Shared → Prop), Takes (X.tr pn xe) W' → PassesOwn (model X.prog X.w) X.A X.env xe → FSs (X.tr pn xe) g W' body sb)
    (hsu : ∀ (a : Addr) (oe : Obj) (cls : Value) (d : Option Addr) (pn : List (Addr × Obj)), Zc cls d oe → (∃ vs, oe.data = .fields vs) → PSs (X.suite a ((a, oe) :: pn)) (b₀ :: suite) (tH g i a cls d h)) :
    FS X g W (.Try body [.ExceptHandler (some (.Name x np)) (some n) (b₀ :: suite) pos'] [] [] pos) (fTry1 i tst sb h) :=
  psImp (ps_try_as (tb := fun W' => tS g W' sb) (ts := fun a cls d => tH g i a cls d h) (Wout := W) hs hf hN hi hln hc tk (fun W' pn xe t po => hb W' pn xe t po) (fun a oe cls d pn z f => hsu a oe cls d pn z f)) fun D σ H ⟨ρ, G, E, F, st, q⟩ => by
    refine ⟨ρ, G, E, F, st, ?_⟩
    revert q
    unfold fTry1
    cases sb E with
    | bad => exact fun q => q
    | val fl E1 => cases fl <;> exact fun q => q
    | exc k fs E1 =>
      intro q dx σ' F' H' st' ss xr
      refine ⟨tst k, ht k, fun hk a hna => ?_, fun hk => ?_⟩
      · simp only [hk, if_true] at q
        have hil : i < E1.length := by
          by_cases hil : i < E1.length
          · exact hil
          · rw [if_neg hil] at q; exact q.elim
        rw [if_pos hil] at q
        have st2 : StOk g ρ G (E1.set i .no) F' (σ'.set i (some (.ref a))) H' := st'.reslot (by simp [st'.len]) fun j s e => by
          by_cases hj : j = i
          · subst hj
            rw [List.getElem?_set_self (by simpa using (List.getElem?_eq_some_iff.mp e).1)] at e
            exact .inr (.inl (Option.some.inj e).symm)
          · rw [List.getElem?_set_ne (Ne.symm hj)] at e
            exact .inl ⟨e, List.getElem?_set_ne (Ne.symm hj)⟩
        have hi' : i < σ'.length := by
          rw [← st'.len]; exact hil
        refine ⟨ρ, G, E1.set i .no, F', k, fs, st2, List.getElem?_set_self hi', rfl, xr, ?_⟩
        have q2 := postS.mono ss q
        rcases tame k fs E1 with ⟨d, E2, e⟩ | ⟨E2, e, no⟩ | e
        · rw [e] at q2 ⊢
          exact q2
        · rw [e] at q2 ⊢
          intro σ2 F2 H2 st3 s3
          refine q2 (σ2.set i none) F2 H2 (st3.reslot (by rw [List.length_set]; exact st3.len) fun j s e' => ?_) s3
          by_cases hj : j = i
          · subst hj
            rcases no with no | no
            · rw [no] at e'; exact .inr (.inl (Option.some.inj e').symm)
            · rw [no] at e'; cases e'
          · exact .inl ⟨e', List.getElem?_set_ne (Ne.symm hj)⟩
        · rw [e] at q2
          exact q2.elim
      · simp only [hk, if_false, Bool.false_eq_true] at q
        exact q dx σ' F' H' st' ss xr
theorem ss_ret {a : Addr} {oe : Obj} {cls : Value} {d : Option Addr} {pn : List (Addr × Obj)} {e : Expr} {v : Xv} (h : PE (X.suite a ((a, oe) :: pn)) e (tX g i a cls d v)) : PSs (X.suite a ((a, oe) :: pn)) [.Return (some e) pos] (tH g i a cls d (hRet v)) :=
  pssImp (pss_one (ps_ret h)) fun D σ H ⟨ρ, G, E, F, c, fs, st, hs, hc, hx, q⟩ => by
    unfold hRet at q
    cases hv : v c fs with
    | none => simp only [hv] at q; exact q.elim
    | some z =>
      simp only [hv] at q
      exact ⟨ρ, G, E, F, c, fs, st, hs, hc, hx, z, hv, fun u F' H' st' s r => q u σ F' H' st' s r⟩
theorem ss_set {j : Nat} {st0 : Stmt} {a : Addr} {oe : Obj} {cls : Value} {d : Option Addr} {pn : List (Addr × Obj)} {v : Xv} (h : PS (X.suite a ((a, oe) :: pn)) st0 (tAsg (tX g i a cls d v) (gName j))) : PSs (X.suite a ((a, oe) :: pn)) [st0] (tH g i a cls d (hSet j v)) :=
  pssImp (pss_one h) fun D σ H ⟨ρ, G, E, F, c, fs, st, hs, hc, hx, q⟩ => by
    unfold hSet at q
    cases hv : v c fs with
    | none => simp only [hv] at q; exact q.elim
    | some z =>
      simp only [hv] at q
      exact ⟨ρ, G, E, F, c, fs, st, hs, hc, hx, z, hv, fun u F' H' st' s r => q _ F' H' (st'.store r) s⟩
end
end FL

namespace FL
open PySem PySem.Spec PyProof.Rows L2

/-! ## a comprehension of two fors -/
def lc2L (b : Bd) (t : Nv → R Bool) (fi1 : Nv → R (List D)) (b1 : Bd) (t1 : Nv → R Bool) (f : Nv → R D) (vs vs1 : List Nat) : List D → List D → Nv → R (List D)
  | [], acc, E => .val acc E
  | d :: ds, acc, E => match b d E with
    | none => .bad
    | some E1 => (t E1).nox.bind fun k E2 => if k = true then (fi1 E2).nox.bind fun ds1 E3 => (lcL b1 t1 f vs1 ds1 acc (wipeE E3 vs1)).bind fun acc' E4 => lc2L b t fi1 b1 t1 f vs vs1 ds acc' (wipeE E4 vs)
      else lc2L b t fi1 b1 t1 f vs vs1 ds acc (wipeE E2 vs)
def fLc2 (fi : Nv → R (List D)) (b : Bd) (t : Nv → R Bool) (fi1 : Nv → R (List D)) (b1 : Bd) (t1 : Nv → R Bool) (f : Nv → R D) (vs vs1 : List Nat) : Nv → R D := fun E => (fi E).bind fun ds E1 =>
  (lc2L b t fi1 b1 t1 f vs vs1 ds [] (wipeE E1 vs)).bind fun xs E2 => .val (.lst xs) (restoreE E1 E2 vs)
theorem wipe_sub {σ : L2.St} {vs vs1 : List Nat} (h : ∀ i ∈ vs1, i ∈ vs) : wipe (wipe σ vs1) vs = wipe σ vs := wipe_ext (wipe_length _ _) fun i hi => wipe_other fun k => hi (h i k)
theorem noxI {γ : Type} {g : Gm} {ρ : Nat → Addr} {G F H : Hp} {E : Nv} {σ : L2.St} {f : Nv → R (List D)} {k : List D → Nv → R γ} {Q1 : It → Hp → Prop} (P : R γ → Prop) (h : P ((f E).nox.bind k)) (hb : ¬ P .bad) (st : StOk g ρ G E F σ H)
    (cont : ∀ a E1 J F1 H1, StOk g ρ G E1 F1 σ H1 → Same F F1 → Walks g F1 J a → P (k a E1) → Q1 J H1) : tI g W0 f σ H Q1 := by
  refine ⟨ρ, G, E, F, st, ?_⟩
  revert h
  cases f E with
  | val a E1 => exact fun h J F1 H1 st1 s1 w1 => cont a E1 J F1 H1 st1 s1 w1 h
  | exc c fs E' => exact fun h => absurd h hb
  | bad => exact fun h => absurd h hb
section
variable {X : Cx} {g : Gm} {W : WX} {e : Expr} {st : Stmt}
theorem le_lc2 {fi fi1 : Nv → R (List D)} {b b1 : Bd} {tf tf1 : Nv → R Bool} {f : Nv → R D} {vs vs1 : List Nat} {σ : L2.St} {H : Hp} {Q : VK} (hv : ∀ i ∈ vs1, i ∈ vs) (h : tN g W (fLc2 fi b tf fi1 b1 tf1 f vs vs1) σ H Q) :
    tLc2 (tI g W fi) (tGv g vs b) (tG g W0 relB tf) (tI g W0 fi1) (tGv g vs1 b1) (tG g W0 relB tf1) (tG g W0 (relD g) f) vs vs1 σ H Q := by
  obtain ⟨ρ, G, E, F, st, q⟩ := h
  refine ⟨ρ, G, E, F, st, ?_⟩
  unfold fLc2 at q
  revert q
  cases fi E with
  | exc c fs E' => exact fun q => q
  | bad => exact fun q => q
  | val ds E1 =>
    intro q J F1 H1 st1 s1 w D hD
    let fin : List FL.D → Nv → R FL.D := fun xs E2 => .val (.lst xs) (restoreE E1 E2 vs)
    let out : List FL.D → List FL.D → Nv → R (List FL.D) := lc2L b tf fi1 b1 tf1 f vs vs1
    have q : postN g W ρ G F σ Q ((out ds [] (wipeE E1 vs)).bind fin) := q
    have gD := st1.fG hD
    refine ⟨fun i m H => i ≤ ds.length ∧ m = ds.length - i ∧ ∃ F2 E2 acc xs, StOk g ρ (upd G D (.lst xs)) E2 F2 (wipe σ vs) H ∧ RepL g F2 acc xs ∧ Same F1 F2 ∧
      postN g W ρ G F2 σ Q ((out (ds.drop i) acc E2).bind fin), ⟨_, Nat.zero_le _, rfl, F1, wipeE E1 vs, [], [], (st1.temp hD _).wiped vs, rfl, Same.refl _, postN.mono s1 (by simpa using q)⟩, ?_⟩
    rintro i m H2 ⟨hi, rfl, F2, E2, acc, xs, st2, ra, s2, q2⟩
    by_cases hlt : i < ds.length
    · let Nx : Hp → Prop := fun H' => i + 1 ≤ ds.length ∧ ∃ F2 E2 acc xs, StOk g ρ (upd G D (.lst xs)) E2 F2 (wipe σ vs) H' ∧ RepL g F2 acc xs ∧ Same F1 F2 ∧
        postN g W ρ G F2 σ Q ((out (ds.drop (i + 1)) acc E2).bind fin)
      refine .inr ⟨w.goes i H2 F2 s2 st2.sf hlt, Nx, fun H' ⟨a, r⟩ => ⟨ds.length - (i + 1), by omega, a, rfl, r⟩, fun x H3 y => ?_⟩
      obtain ⟨d, F3, hd, gr, r⟩ := w.yields i H2 F2 x H3 s2 st2.sf hlt y
      have hdrop : ds.drop i = d :: ds.drop (i + 1) := by
        rw [List.drop_eq_getElem_cons hlt]
        rw [List.getElem?_eq_getElem hlt] at hd
        rw [Option.some.inj hd]
      rw [hdrop] at q2
      change postN g W ρ G F2 σ Q ((lc2L b tf fi1 b1 tf1 f vs vs1 (d :: ds.drop (i + 1)) acc E2).bind fin) at q2
      unfold lc2L at q2
      cases z : b d E2 with
      | none => simp only [z] at q2; exact q2.elim
      | some E3 =>
        simp only [z] at q2
        refine ⟨ρ, _, E2, F3, d, gr.2 _ _ _ _ st2, r, E3, z, fun σ4 F4 H4 st4 s4 w4 => ⟨w4.trans wipe_wipe, ?_⟩⟩
        rw [wipe_wipe] at w4
        have s14 : Same F2 F4 := gr.1.trans s4
        refine noxE (P := fun r : R (List FL.D) => postN g W ρ G F2 σ Q (r.bind fin)) q2 (fun h => h) st4 fun k E5 c F5 H5 st5 s5 r5 q5 => ?_
        obtain rfl : k = c := r5
        cases k with
        | false =>
          rw [if_neg Bool.false_ne_true] at q5 ⊢
          exact ⟨hlt, F5, _, acc, xs, st5.wiped2 vs w4, ra.mono (s14.trans s5), (s2.trans s14).trans s5, postN.mono (s14.trans s5) q5⟩
        | true =>
          rw [if_pos rfl] at q5 ⊢
          refine noxI (P := fun r : R (List FL.D) => postN g W ρ G F2 σ Q (r.bind fin)) q5 (fun h => h) st5 fun ds1 E6 J1 F6 H6 st6 s6 w6 q6 => ?_
          have s16 := (s14.trans s5).trans s6
          let nxt : List FL.D → Nv → R (List FL.D) := fun acc' E4 => out (ds.drop (i + 1)) acc' (wipeE E4 vs)
          refine ⟨fun j k H => j ≤ ds1.length ∧ k = ds1.length - j ∧ ∃ F7 E7 acc7 xs7, StOk g ρ (upd G D (.lst xs7)) E7 F7 (wipe σ4 vs1) H ∧ RepL g F7 acc7 xs7 ∧ Same F6 F7 ∧
            postN g W ρ G F7 σ Q (((lcL b1 tf1 f vs1 (ds1.drop j) acc7 E7).bind nxt).bind fin), ⟨_, Nat.zero_le _, rfl, F6, wipeE E6 vs1, acc, xs, st6.wiped vs1, ra.mono s16, Same.refl _, postN.mono s16 (by simpa using q6)⟩, ?_⟩
          rintro j k H7 ⟨hj, rfl, F7, E7, acc7, xs7, st7, ra7, s7, q7⟩
          by_cases hlt1 : j < ds1.length
          · refine .inr ⟨w6.goes j H7 F7 s7 st7.sf hlt1, fun H' => j + 1 ≤ ds1.length ∧ ∃ F7 E7 acc7 xs7, StOk g ρ (upd G D (.lst xs7)) E7 F7 (wipe σ4 vs1) H' ∧ RepL g F7 acc7 xs7 ∧ Same F6 F7 ∧
              postN g W ρ G F7 σ Q (((lcL b1 tf1 f vs1 (ds1.drop (j + 1)) acc7 E7).bind nxt).bind fin), fun H' ⟨a, r⟩ => ⟨ds1.length - (j + 1), by omega, a, rfl, r⟩, fun x1 H8 y1 => ?_⟩
            obtain ⟨d1, F8, hd1, gr1, r1⟩ := w6.yields j H7 F7 x1 H8 s7 st7.sf hlt1 y1
            have hdrop1 : ds1.drop j = d1 :: ds1.drop (j + 1) := by
              rw [List.drop_eq_getElem_cons hlt1]
              rw [List.getElem?_eq_getElem hlt1] at hd1
              rw [Option.some.inj hd1]
            rw [hdrop1] at q7
            unfold lcL at q7
            cases z1 : b1 d1 E7 with
            | none => simp only [z1] at q7; exact q7.elim
            | some E8 =>
              simp only [z1] at q7
              refine ⟨ρ, _, E7, F8, d1, gr1.2 _ _ _ _ st7, r1, E8, z1, fun σ9 F9 H9 st9 s9 w9 => ⟨w9.trans wipe_wipe, ?_⟩⟩
              rw [wipe_wipe] at w9
              have s79 : Same F7 F9 := gr1.1.trans s9
              refine noxE (P := fun r : R (List FL.D) => postN g W ρ G F7 σ Q ((r.bind nxt).bind fin)) q7 (fun h => h) st9 fun k E5 c F5 H5 st5 s5 r5 q5 => ?_
              obtain rfl : k = c := r5
              cases k with
              | false =>
                rw [if_neg Bool.false_ne_true] at q5 ⊢
                exact ⟨hlt1, F5, _, acc7, xs7, st5.wiped2 vs1 w9, ra7.mono (s79.trans s5), (s7.trans s79).trans s5, postN.mono (s79.trans s5) q5⟩
              | true =>
                rw [if_pos rfl] at q5 ⊢
                refine noxE (P := fun r : R (List FL.D) => postN g W ρ G F7 σ Q ((r.bind nxt).bind fin)) q5 (fun h => h) st5 fun y E6 v Fa Ha sta sa ra' qa => ?_
                by_cases hz : acc7.length < sizeLine
                · rw [if_pos hz] at qa
                  have s7a := (s79.trans s5).trans sa
                  have hDa : Ha D = some (.lst xs7) := sta.sg _ _ upd_same
                  exact ⟨xs7, hDa, by rw [← ra7.length]; exact hz, hlt1, Fa, _, acc7 ++ [y], xs7 ++ [v], (sta.rewrite gD).wiped2 vs1 w9, (ra7.mono s7a).append (RepL.cons ra' RepL.nil), s7.trans s7a, postN.mono s7a qa⟩
                · rw [if_neg hz] at qa
                  exact qa.elim
          · have e : j = ds1.length := by omega
            subst e
            rw [List.drop_length] at q7
            have q7 : postN g W ρ G F7 σ Q ((out (ds.drop (i + 1)) acc7 (wipeE E7 vs)).bind fin) := q7
            exact .inl ⟨w6.stops H7 F7 s7 st7.sf, hlt, F7, _, acc7, xs7, st7.wiped2 vs ((wipe_sub hv).trans w4), ra7, (s2.trans s16).trans s7, q7⟩
    · have e : i = ds.length := by omega
      subst e
      rw [List.drop_length] at q2
      have q2 : postN g W ρ G F2 σ Q (.val (.lst acc) (restoreE E1 E2 vs)) := q2
      refine .inl ⟨w.stops H2 F2 s2 st2.sf, ?_⟩
      exact q2 D (.lst xs) F2 H2 (st2.restored st1 s2) gD ⟨xs, rfl, ra⟩ (Same.refl _)
theorem fn_lc2 {fi fi1 : Nv → R (List D)} {b b1 : Bd} {tf tf1 : Nv → R Bool} {f : Nv → R D} {vs vs1 : List Nat} (hv : ∀ i ∈ vs1, i ∈ vs)
    (h : PE X e (tLc2 (tI g W fi) (tGv g vs b) (tG g W0 relB tf) (tI g W0 fi1) (tGv g vs1 b1) (tG g W0 relB tf1) (tG g W0 (relD g) f) vs vs1)) : FN X g W e (fLc2 fi b tf fi1 b1 tf1 f vs vs1) := peImp h fun _ _ _ q => le_lc2 hv q
theorem fs_setLc2 {i : Nat} {fi fi1 : Nv → R (List D)} {b b1 : Bd} {tf tf1 : Nv → R Bool} {f : Nv → R D} {vs vs1 : List Nat} (hv : ∀ i ∈ vs1, i ∈ vs)
    (h : PS X st (tAsg (tLc2 (tI g W fi) (tGv g vs b) (tG g W0 relB tf) (tI g W0 fi1) (tGv g vs1 b1) (tG g W0 relB tf1) (tG g W0 (relD g) f) vs vs1) (gName i))) : FS X g W st (fSetN i (fLc2 fi b tf fi1 b1 tf1 f vs vs1)) :=
  fs_setN (psImp h fun D σ H q => le_lc2 hv q)

/-! ## {} ; three names at once -/
def fEmp : Nv → R D := fun E => .val .emp E
theorem fe_emp (h : PE X e tDNewK) : FE X g W e fEmp := peImp h fun σ H Q ⟨ρ, G, E, F, st, q⟩ => fun p hp => q (.ref p) _ _ (st.grow hp _) (Same.new (st.fF hp)) ⟨p, rfl, upd_same⟩
def fPar3 (i j l : Nat) (f h k : Nv → R D) : Nv → R Fl := fun E => (f E).bind fun d E1 => (h E1).bind fun e E2 => (k E2).bind fun z E3 => .val .nx (((E3.set i (.fz d)).set j (.fz e)).set l (.fz z))
theorem fs_par3 {i j l : Nat} {f h k : Nv → R D} (hp : PS X st (tPar3 i j l (tCons (tG g W (relD g) f) (tCons (tG g W (relD g) h) (tCons (tG g W (relD g) k) tNil))))) : FS X g W st (fPar3 i j l f h k) := psImp hp fun D σ H ⟨ρ, G, E, F, st, q⟩ =>
  bindS st q fun d E1 v F1 H1 st1 s1 r1 q1 => bindS st1 q1 fun e E2 u F2 H2 st2 s2 r2 q2 => bindS st2 q2 fun z E3 w F3 H3 st3 s3 r3 q3 =>
    ⟨v, u, w, rfl, q3 _ F3 H3 (((st3.store (r1.mono (s2.trans s3))).store (r2.mono s3)).store r3) (Same.refl _)⟩
def fPar3N (i j l : Nat) (f h k : Nv → R D) : Nv → R Fl := fun E => (f E).bind fun d E1 => (h E1).bind fun e E2 => (k E2).bind fun z E3 => .val .nx (((E3.set i (.own d)).set j (.fz e)).set l (.fz z))
theorem fs_par3N {i j l : Nat} {f h k : Nv → R D} (hp : PS X st (tPar3 i j l (tCons (tN g W f) (tCons (tG g W (relD g) h) (tCons (tG g W (relD g) k) tNil))))) : FS X g W st (fPar3N i j l f h k) := psImp hp fun D σ H ⟨ρ, G, E, F, st, q⟩ =>
  bindNS st q fun d E1 p o F1 H1 st1 gn ow s1 q1 => by
    refine ⟨ρ, _, E1, F1, st1, ?_⟩
    revert q1
    cases h E1 with
    | exc c fs E' => exact fun q1 dx F' H' st' s x => q1 dx σ F' H' (st'.untemp gn) s x
    | bad => exact fun q1 => q1
    | val e E2 =>
      intro q1 u F2 H2 st2 s2 r2
      refine ⟨ρ, _, E2, F2, st2, ?_⟩
      have q1 : postS g W ρ G F1 D ((k E2).bind fun z E3 => .val .nx (((E3.set i (.own d)).set j (.fz e)).set l (.fz z))) := q1
      revert q1
      cases k E2 with
      | exc c fs E' => exact fun q1 dx F' H' st' s x => q1 dx σ F' H' (st'.untemp gn) (s2.trans s) x
      | bad => exact fun q1 => q1
      | val z E3 => exact fun q1 w F3 H3 st3 s3 r3 => ⟨.ref p, u, w, rfl, q1 _ F3 H3 (((st3.take gn (ow.mono (s2.trans s3))).store (r2.mono s3)).store r3) (s2.trans s3)⟩
/-! ## tuple(range(n)) -/
def fTupR (f : Nv → R D) : Nv → R D := fun E => (f E).bind fun d E1 => match d with
  | .int n => if 0 ≤ n ∧ n ≤ 1000000 then .val (.tup (rangeD 0 n.toNat)) E1 else .bad
  | _ => .bad
theorem repl_rg {F : Hp} (n : Nat) : RepL g F (rangeD 0 n) ((List.range n).map fun i => V.int (0 + (i : Nat))) := by
  have := RepL.ints (g := g) (F := F) ((List.range n).map fun i : Nat => (0 + (i : Int)))
  rw [List.map_map, List.map_map] at this
  exact this
theorem fe_tupR {f : Nv → R D} (h : PE X e (tTupRg (tRg1 (tG g W (relD g) f)))) : FE X g W e (fTupR f) := peImp h fun σ H Q ⟨ρ, G, E, F, st, q⟩ =>
  bindE st q fun d E1 v F1 H1 st1 s1 r1 q1 => by
    cases d with
    | int n =>
      obtain rfl : v = .int n := r1
      have q1 : post g W (relD g) ρ G F1 σ Q (if 0 ≤ n ∧ n ≤ 1000000 then .val (.tup (rangeD 0 n.toNat)) E1 else .bad) := q1
      by_cases hn : 0 ≤ n ∧ n ≤ 1000000
      · rw [if_pos hn] at q1
        refine ⟨n, rfl, .of_le (by omega) (by omega) (by omega) hn.1, fun p hp => ?_⟩
        refine q1 (.ref p) _ _ (st1.grow hp _) (Same.new (st1.fF hp)) ⟨p, _, rfl, .inl (.inl upd_same), ?_⟩
        have : (n - 0).toNat = n.toNat := by omega
        unfold rgV
        rw [this]
        exact repl_rg _
      · rw [if_neg hn] at q1; exact q1.elim
    | _ => exact q1.elim
/-! ## -a -/
def fNeg (f : Nv → R D) : Nv → R D := fun E => (f E).bind fun d E1 => match d with
  | .int n => .val (.int (-n)) E1
  | _ => .bad
theorem fe_neg {f : Nv → R D} (h : PE X e (tUn (rU fun i => .int (-i)) (tG g W (relD g) f))) : FE X g W e (fNeg f) := peImp h fun σ H Q ⟨ρ, G, E, F, st, q⟩ =>
  bindE st q fun d E1 v F1 H1 st1 s1 r1 q1 => by
    cases d with
    | int n =>
      obtain rfl : v = .int n := r1
      exact ⟨n, rfl, q1 _ F1 H1 st1 (Same.refl _) rfl⟩
    | _ => exact q1.elim
end
/-! ## facts of classes -/
theorem kit_sub {K : PySem.W.Frag} {x y : Addr} {b : Bool} (ci : PySem.W.isClsIn K x = true) (cy : PySem.W.typeIn K (.ref x) = some (.type "type")) (sx : PySem.W.subIn K (.ref x) (.ref x) = some true) (s : PySem.W.subIn K (.ref y) (.ref x) = some b) :
    PySem.W.kitOne K (.ref y) (.ref x) = some b := by
  have e2 : ((PySem.W.clsIn K x).isSome && PySem.W.typeIn K (.ref x) == some (.type "type")) = true := by
    have ci' : (PySem.W.clsIn K x).isSome = true := ci
    rw [ci', cy] <;> rfl
  unfold PySem.W.kitOne
  by_cases h : (Value.ref y == Value.ref x) = true
  · rw [if_pos h]
    have : y = x := Value.ref.inj (beq_iff_eq.mp h)
    subst this
    rw [sx] at s
    exact s
  · rw [if_neg h]
    unfold PySem.W.kitCls
    simp only [e2, if_true]
    exact s
theorem kit_subT {K : PySem.W.Frag} {y : Addr} {T : String} {b : Bool} (m : PySem.W.kitMeta T = true) (s : PySem.W.subIn K (.ref y) (.type T) = some b) : PySem.W.kitOne K (.ref y) (.type T) = some b := by
  unfold PySem.W.kitOne
  rw [if_neg (by intro h; cases (beq_iff_eq.mp h))]
  unfold PySem.W.kitCls
  simp only [m, if_true]
  exact s
theorem nb_mk {K : PySem.W.Frag} {y : Addr} (h1 : PySem.W.subIn K (.ref y) (.type "bool") = some false) (h2 : PySem.W.subIn K (.ref y) (.type "int") = some false) (h3 : PySem.W.subIn K (.ref y) (.type "str") = some false) (h4 : PySem.W.subIn K (.ref y) (.type "tuple") = some false)
    (h5 : PySem.W.subIn K (.ref y) (.type "list") = some false) (h6 : PySem.W.subIn K (.ref y) (.type "dict") = some false) : ∀ T ∈ tgs, PySem.W.kitOne K (.ref y) (.type T) = some false := fun T hT => by
  simp only [tgs, List.mem_cons, List.not_mem_nil, or_false] at hT
  rcases hT with rfl | rfl | rfl | rfl | rfl | rfl
  · exact kit_subT (by decide +kernel) h1
  · exact kit_subT (by decide +kernel) h2
  · exact kit_subT (by decide +kernel) h3
  · exact kit_subT (by decide +kernel) h4
  · exact kit_subT (by decide +kernel) h5
  · exact kit_subT (by decide +kernel) h6
end FL

namespace FL
open PySem PySem.Spec PyProof.Rows L2

/-! ## a run that may end in an exception: QS where it ends, QX where it raises -/
abbrev QXT := Nat → Option (Str × D) → Nv → Prop
def runS {α : Type} (Q : α → Nv → Prop) (X : QXT) (_ : Tg (Q, X)) (r : R α) : Prop := match r with
  | .val a E => Q a E
  | .exc c fs E => X c fs E
  | .bad => False
def runX {α : Type} (X : QXT) (_ : Tg X) (r : R α) : Prop := match r with
  | .exc c fs E => X c fs E
  | _ => False
def seqS (t : Nv → R Fl) (Q : Fl → Nv → Prop) (X : QXT) (_ : Tg (t, Q, X)) (fl : Fl) (E : Nv) : Prop := match fl with
  | .nx => runS Q X () (t E)
  | fl => Q fl E
def ifS {α : Type} (a b : Nv → R α) (Q : α → Nv → Prop) (X : QXT) (_ : Tg (a, b, Q, X)) (c : Bool) (E : Nv) : Prop := if c = true then runS Q X () (a E) else runS Q X () (b E)
def calX (fn : Fn) (ars : List Ar) (X : QXT) (_ : Tg (fn, ars, X)) (E : Nv) (as : Option (List Sl)) : Prop := match as with
  | some as => once ars = true ∧ ∃ c fs bs, fn as = .exc c fs bs ∧ shape as bs = true ∧ X c fs (unlend ars bs E)
  | none => False
def excK (tst : Nat → Bool) (i : Nat) (h : Nat → Option (Str × D) → Nv → R Fl) (Q : Fl → Nv → Prop) (X : QXT) (_ : Tg (tst, h, Q, X)) : QXT := fun c fs E => if tst c = true then i < E.length ∧ runS Q X () (h c fs (E.set i .no)) else X c fs E
def bakX (as : List Sl) (P : Nat → Option (Str × D) → List Sl → Prop) (_ : Tg (as, P)) : QXT := fun c fs E => ∃ x, backs as E = some x ∧ P c fs x
def noX : QXT := fun _ _ _ => False
section
variable {α : Type} {E : Nv} {Q : α → Nv → Prop} {QD : D → Nv → Prop} {QS : Fl → Nv → Prop} {X : QXT} {f h k : Nv → R D} {fl : Nv → R (List Ar)} {t : Nv → R Bool} {s s2 : Nv → R Fl} {a b : Nv → R α} {i j l : Nat} {d : D} {fn : Fn}
theorem s_run {r : R α} {g : Tg (Q, X)} (h : run Q () r) : runS Q X g r := by
  cases r with
  | val a E => exact h
  | _ => exact h.elim
theorem s_exc {r : R α} {g : Tg (Q, X)} (h : runX X () r) : runS Q X g r := by
  cases r with
  | exc a E => exact h
  | _ => exact h.elim
theorem s_seq {g : Tg (QS, X)} : runS QS X g (fSeq s s2 E) = runS (seqS s2 QS X ()) X () (s E) := by
  unfold fSeq; cases s E with
  | val fl E1 => cases fl <;> rfl
  | exc _ _ _ => rfl
  | bad => rfl
theorem seqS_nx {g : Tg (s, QS, X)} : seqS s QS X g .nx E = runS QS X () (s E) := rfl
theorem seqS_rt {g : Tg (s, QS, X)} : seqS s QS X g (.rt d) E = QS (.rt d) E := rfl
theorem seqS_rn {g : Tg (s, QS, X)} : seqS s QS X g (.rn d) E = QS (.rn d) E := rfl
theorem seqS_bk {g : Tg (s, QS, X)} : seqS s QS X g .bk E = QS .bk E := rfl
theorem seqS_ct {g : Tg (s, QS, X)} : seqS s QS X g .ct E = QS .ct E := rfl
theorem s_val {x : α} {g : Tg (Q, X)} : runS Q X g (.val x E) = Q x E := rfl
theorem s_nx {g : Tg (QS, X)} : runS QS X g (fNx E) = QS .nx E := rfl
theorem s_if {g : Tg (Q, X)} (h : run (ifS a b Q X ()) () (t E)) : runS Q X g (fIf t a b E) := by
  unfold fIf
  revert h
  cases t E with
  | val c E1 =>
    cases c with
    | true => exact fun h => h
    | false => exact fun h => h
  | _ => exact fun h => h.elim
theorem ifS_t {g : Tg (a, b, Q, X)} : ifS a b Q X g true E = runS Q X () (a E) := rfl
theorem ifS_f {g : Tg (a, b, Q, X)} : ifS a b Q X g false E = runS Q X () (b E) := rfl
theorem ifS_if {g : Tg (a, b, Q, X)} {c : Bool} (h1 : c = true → runS Q X () (a E)) (h2 : c = false → runS Q X () (b E)) : ifS a b Q X g c E := by
  cases c with
  | true => exact h1 rfl
  | false => exact h2 rfl
theorem s_raise {c : Nat} {n : Str} {g : Tg (QS, X)} (q : run (fun d E1 => X c (some (n, d)) E1) () (f E)) : runS QS X g (fRaise1 c n f E) := by
  unfold fRaise1
  revert q
  cases f E with
  | val d E1 => exact fun q => q
  | _ => exact fun q => q.elim
theorem xx_set {g : Tg X} : runX X g (fSet i f E) = runX X () (f E) := by unfold fSet; cases f E <;> rfl
theorem xx_setN {g : Tg X} : runX X g (fSetN i f E) = runX X () (f E) := by unfold fSetN; cases f E <;> rfl
theorem xx_ret {g : Tg X} : runX X g (fRet f E) = runX X () (f E) := by unfold fRet; cases f E <;> rfl
theorem xx_drop {g : Tg X} : runX X g (fDrop f E) = runX X () (f E) := by unfold fDrop; cases f E <;> rfl
theorem xx_call {g : Tg X} (q : run (fun as E1 => calX fn as X () E1 (lend E1 0 as)) () (fl E)) : runX X g (fCall fn fl E) := by
  unfold fCall
  revert q
  cases fl E with
  | val as E1 =>
    intro q
    have q : calX fn as X () E1 (lend E1 0 as) := q
    show runX X () (resC fn as E1)
    unfold resC
    revert q
    cases lend E1 0 as with
    | none => exact fun q => q.elim
    | some ls =>
      rintro ⟨ho, c, fs, bs, e, sh, q⟩
      simp only [ho, e, sh, if_true]
      exact q
  | _ => exact fun q => q.elim
theorem xx_callN {g : Tg X} (q : run (fun as E1 => calX fn as X () E1 (lend E1 0 as)) () (fl E)) : runX X g (fCallN fn fl E) := by
  unfold fCallN
  revert q
  cases fl E with
  | val as E1 =>
    intro q
    have q : calX fn as X () E1 (lend E1 0 as) := q
    show runX X () (resCN fn as E1)
    unfold resCN
    revert q
    cases lend E1 0 as with
    | none => exact fun q => q.elim
    | some ls =>
      rintro ⟨ho, c, fs, bs, e, sh, q⟩
      simp only [ho, e, sh, if_true]
      exact q
  | _ => exact fun q => q.elim
theorem xx_make {c : Nat} {g : Tg X} (q : run (fun as E1 => calX fn (.pk E1.length :: as) (fun c fs E2 => X c fs (E2.take E1.length)) () (E1 ++ [.own (.ins c [] [])]) (lend (E1 ++ [.own (.ins c [] [])]) 0 (.pk E1.length :: as))) () (fl E)) : runX X g (fMake c fn fl E) := by
  unfold fMake
  revert q
  cases fl E with
  | val as E1 =>
    intro q
    have q : calX fn (.pk E1.length :: as) (fun c fs E2 => X c fs (E2.take E1.length)) () (E1 ++ [.own (.ins c [] [])]) (lend (E1 ++ [.own (.ins c [] [])]) 0 (.pk E1.length :: as)) := q
    show runX X () (resMk c fn as E1)
    unfold resMk resC
    revert q
    cases lend (E1 ++ [.own (.ins c [] [])]) 0 (.pk E1.length :: as) with
    | none => exact fun q => q.elim
    | some ls =>
      rintro ⟨ho, c, fs, bs, e, sh, q⟩
      simp only [ho, e, sh, if_true]
      exact q
  | _ => exact fun q => q.elim
theorem calX_by {as : List Sl} {ars : List Ar} {c : Nat} {fs : Option (Str × D)} {bs : List Sl} {g : Tg (fn, ars, X)} (e : fn as = .exc c fs bs) (ho : once ars = true) (sh : shape as bs = true) (q : X c fs (unlend ars bs E)) : calX fn ars X g E (some as) := ⟨ho, c, fs, bs, e, sh, q⟩
def exK (as : List Sl) (ars : List Ar) (X : QXT) (E : Nv) (_ : Tg (as, ars, X, E)) (r : FR) : Prop := match r with
  | .exc c fs bs => shape as bs = true ∧ X c fs (unlend ars bs E)
  | _ => False
theorem calX_s {as : List Sl} {ars : List Ar} {g : Tg (fn, ars, X)} : calX fn ars X g E (some as) = (once ars = true ∧ exK as ars X E () (fn as)) := by
  show (once ars = true ∧ ∃ c fs bs, fn as = .exc c fs bs ∧ shape as bs = true ∧ X c fs (unlend ars bs E)) = _
  refine propext ⟨fun ⟨ho, c, fs, bs, e, sh, q⟩ => ⟨ho, by rw [e]; exact ⟨sh, q⟩⟩, fun ⟨ho, q⟩ => ⟨ho, ?_⟩⟩
  revert q
  cases fn as with
  | exc c fs bs => exact fun q => ⟨c, fs, bs, rfl, q⟩
  | _ => exact fun q => q.elim
theorem exK_exc {as : List Sl} {ars : List Ar} {c : Nat} {fs : Option (Str × D)} {bs : List Sl} {g : Tg (as, ars, X, E)} : exK as ars X E g (.exc c fs bs) = (shape as bs = true ∧ X c fs (unlend ars bs E)) := rfl
/-! try -/
theorem s_try {tst : Nat → Bool} {hd : Nat → Option (Str × D) → Nv → R Fl} {g : Tg (QS, X)} : runS QS X g (fTry1 i tst s hd E) = runS QS (excK tst i hd QS X ()) () (s E) := by
  unfold fTry1
  cases s E with
  | val fl E1 => rfl
  | bad => rfl
  | exc c fs E1 =>
    show runS QS X () (if tst c = true then (if i < E1.length then hd c fs (E1.set i .no) else .bad) else .exc c fs E1) = excK tst i hd QS X () c fs E1
    unfold excK
    by_cases ht : tst c = true
    · simp only [ht, if_true]
      by_cases hl : i < E1.length
      · simp [hl]
      · simp [hl, runS]
    · simp only [ht, if_false]; rfl
theorem x_try {tst : Nat → Bool} {hd : Nat → Option (Str × D) → Nv → R Fl} {g : Tg QS} : run QS g (fTry1 i tst s hd E) = runS QS (excK tst i hd QS noX ()) () (s E) := by
  rw [← s_try (g := ())]
  cases fTry1 i tst s hd E <;> rfl
theorem excK_t {tst : Nat → Bool} {hd : Nat → Option (Str × D) → Nv → R Fl} {g : Tg (tst, hd, QS, X)} {c : Nat} {fs : Option (Str × D)} : excK tst i hd QS X g c fs E = if tst c = true then i < E.length ∧ runS QS X () (hd c fs (E.set i .no)) else X c fs E := rfl
theorem s_hRet {v : Xv} {c : Nat} {fs : Option (Str × D)} {g : Tg (QS, X)} : runS QS X g (hRet v c fs E) = optK (fun d => QS (.rt d) E) () (v c fs) := by
  unfold hRet optK
  cases v c fs with
  | none => simp [runS]
  | some d => simp [runS]
theorem s_hSet {v : Xv} {c : Nat} {fs : Option (Str × D)} {g : Tg (QS, X)} : runS QS X g (hSet i v c fs E) = optK (fun d => QS .nx (E.set i (.fz d))) () (v c fs) := by
  unfold hSet optK
  cases v c fs with
  | none => simp [runS]
  | some d => simp [runS]
theorem optK_s {γ : Type} {Q : γ → Prop} {g : Tg Q} {x : γ} : optK Q g (some x) = Q x := by unfold optK; exact ex_some
/-! the whole def -/
theorem fn_exc {N : Nat} {as : List Sl} {c : Nat} {fs : Option (Str × D)} {y : List Sl} (h : runS (fun _ _ => False) (bakX as (fun c' fs' bs => c' = c ∧ fs' = fs ∧ bs = y) ()) () (s (as ++ List.replicate (N - as.length) .no))) : runF N s as = .exc c fs y := by
  unfold runF
  revert h
  cases s (as ++ List.replicate (N - as.length) .no) with
  | val _ _ => exact fun h => h.elim
  | bad => exact fun h => h.elim
  | exc c' fs' E' =>
    rintro ⟨x, e, h1, h2, h3⟩
    subst h1; subst h2; subst h3
    simp only [e]
theorem bakX_s {as : List Sl} {P : Nat → Option (Str × D) → List Sl → Prop} {g : Tg (as, P)} {c : Nat} {fs : Option (Str × D)} : bakX as P g c fs E = optK (fun x => P c fs x) () (backs as E) := rfl
/-! ## the further forms -/
theorem x_fEmp {g : Tg QD} : run QD g (fEmp E) = QD .emp E := rfl
theorem x_fPar3 {g : Tg QS} : run QS g (fPar3 i j l f h k E) = run (fun d E1 => run (fun e E2 => run (fun z E3 => QS .nx (((E3.set i (.fz d)).set j (.fz e)).set l (.fz z))) () (k E2)) () (h E1)) () (f E) := by
  unfold run fPar3; simp only [wp_bind]; rfl
theorem x_fPar3N {g : Tg QS} : run QS g (fPar3N i j l f h k E) = run (fun d E1 => run (fun e E2 => run (fun z E3 => QS .nx (((E3.set i (.own d)).set j (.fz e)).set l (.fz z))) () (k E2)) () (h E1)) () (f E) := by
  unfold run fPar3N; simp only [wp_bind]; rfl
def rTupR (d : D) : Option D := match d with
  | .int n => if 0 ≤ n ∧ n ≤ 1000000 then some (.tup (rangeD 0 n.toNat)) else none
  | _ => none
theorem rTupR_s {n : Int} : rTupR (.int n) = if 0 ≤ n ∧ n ≤ 1000000 then some (.tup (rangeD 0 n.toNat)) else none := rfl
theorem x_fTupR {g : Tg QD} : run QD g (fTupR f E) = run (fun d E1 => run QD () (R.some (rTupR d) E1)) () (f E) := by
  unfold run fTupR; rw [wp_bind]; congr; funext d E1; unfold rTupR
  cases d <;> try rfl
  rename_i n
  by_cases hn : 0 ≤ n ∧ n ≤ 1000000 <;> simp [hn, R.some]
def rNeg (d : D) : Option D := match d with
  | .int n => some (.int (-n))
  | _ => none
theorem rNeg_s {n : Int} : rNeg (.int n) = some (.int (-n)) := rfl
theorem x_fNeg {g : Tg QD} : run QD g (fNeg f E) = run (fun d E1 => run QD () (R.some (rNeg d) E1)) () (f E) := by
  unfold run fNeg; rw [wp_bind]; congr; funext d E1; unfold rNeg
  cases d <;> rfl
theorem x_ins {ds : List D} {n : Int} {d : D} : mInsert (.lst ds) [.int n, d] = if ds.length < sizeLine ∧ 0 ≤ n ∧ n ≤ 1000000 then some (.non, .lst (ds.take n.toNat ++ [d] ++ ds.drop n.toNat)) else none := rfl
theorem x_ext {ds es : List D} : mExtend (.lst ds) [.lst es] = if ds.length + es.length ≤ sizeLine then some (.non, .lst (ds ++ es)) else none := rfl
theorem x_popAt {ds : List D} {n : Int} {d : D} (h0 : 0 ≤ n) (h1 : n ≤ 1000000) (e : ds[n.toNat]? = some d) : mPopAt (.lst ds) [.int n] = some (d, .lst (ds.eraseIdx n.toNat)) := by
  show (if 0 ≤ n ∧ n ≤ 1000000 then _ else _) = _
  rw [if_pos ⟨h0, h1⟩, e]
/-! two fors -/
def lc2K (b : Bd) (t : Nv → R Bool) (fi1 : Nv → R (List D)) (b1 : Bd) (t1 : Nv → R Bool) (f : Nv → R D) (vs vs1 : List Nat) (Q : D → Nv → Prop) (_ : Tg (b, t, fi1, b1, t1, f, Q)) (ds : List D) (E : Nv) : Prop :=
  wp (lc2L b t fi1 b1 t1 f vs vs1 ds [] (wipeE E vs)) fun xs E2 => Q (.lst xs) (restoreE E E2 vs)
def lcaK (b1 : Bd) (t1 : Nv → R Bool) (f : Nv → R D) (vs1 : List Nat) (acc : List D) (Q : List D → Nv → Prop) (_ : Tg (b1, t1, f, Q)) (ds : List D) (E : Nv) : Prop := wp (lcL b1 t1 f vs1 ds acc (wipeE E vs1)) Q
def yesK (Q : Nv → Prop) (_ : Tg Q) (c : Bool) (E : Nv) : Prop := c = true ∧ Q E
theorem yesK_t {Q : Nv → Prop} {g : Tg Q} : yesK Q g true E = Q E := by unfold yesK; simp
theorem x_fLc2 {fi fi1 : Nv → R (List D)} {b b1 : Bd} {t1 : Nv → R Bool} {vs vs1 : List Nat} {g : Tg QD} : run QD g (fLc2 fi b t fi1 b1 t1 f vs vs1 E) = run (lc2K b t fi1 b1 t1 f vs vs1 QD ()) () (fi E) := by
  unfold run fLc2 lc2K; rw [wp_bind]; congr; funext ds E1; rw [wp_bind]; rfl
theorem lc2_run {β : Type} {kf : β → D} {b b1 : Bd} {fi1 : Nv → R (List D)} {t1 : Nv → R Bool} {vs vs1 : List Nat} (P : List β → List D → Nv → Prop) : ∀ (xs : List β) (acc : List D) (E0 : Nv), P xs acc E0 →
    (∀ x r acc E, P (x :: r) acc E → someK (fun E1 => run (yesK (fun E2 => run (fun ds1 E3 => lcaK b1 t1 f vs1 acc (fun acc' E4 => P r acc' (wipeE E4 vs)) () ds1 E3) () (fi1 E2)) ()) () (t E1)) () (b (kf x) E)) →
    (∀ acc E2, P [] acc E2 → QD (.lst acc) (restoreE E E2 vs)) → wp (lc2L b t fi1 b1 t1 f vs vs1 (xs.map kf) acc E0) fun ys E2 => QD (.lst ys) (restoreE E E2 vs)
  | [], acc, E0, p, _, fin => fin acc E0 p
  | x :: xs, acc, E0, p, turn, fin => by
    obtain ⟨E1, e1, w⟩ := turn x xs acc E0 p
    rw [List.map_cons, lc2L]
    simp only [e1]
    rw [wp_bind, wp_nox]
    refine wp_imp w fun c E2 ⟨hc, q⟩ => ?_
    subst hc
    rw [if_pos rfl, wp_bind, wp_nox]
    have q : wp (fi1 E2) _ := q
    refine wp_imp q fun ds1 E3 q2 => ?_
    rw [wp_bind]
    have q2 : wp (lcL b1 t1 f vs1 ds1 acc (wipeE E3 vs1)) _ := q2
    refine wp_imp q2 fun acc' E4 p' => lc2_run P xs acc' _ p' turn fin
theorem lc2_maps {β : Type} {kf : β → D} {xs : List β} {b b1 : Bd} {fi1 : Nv → R (List D)} {t1 : Nv → R Bool} {vs vs1 : List Nat} {g : Tg (b, t, fi1, b1, t1, f, QD)} (P : List β → List D → Nv → Prop) (h0 : P xs [] (wipeE E vs))
    (turn : ∀ x r acc E, P (x :: r) acc E → someK (fun E1 => run (yesK (fun E2 => run (fun ds1 E3 => lcaK b1 t1 f vs1 acc (fun acc' E4 => P r acc' (wipeE E4 vs)) () ds1 E3) () (fi1 E2)) ()) () (t E1)) () (b (kf x) E))
    (fin : ∀ acc E2, P [] acc E2 → QD (.lst acc) (restoreE E E2 vs)) : lc2K b t fi1 b1 t1 f vs vs1 QD g (xs.map kf) E := lc2_run P xs [] _ h0 turn fin
theorem lca_fun {β : Type} {kf hf : β → D} {b1 : Bd} {vs1 : List Nat} {Q : List D → Nv → Prop} : ∀ {xs : List β} {acc : List D} {g : Tg (b1, tYesF, f, Q)} (hl : acc.length + xs.length ≤ sizeLine)
    (turn : ∀ x, x ∈ xs → someK (fun E1 => run (fun y E3 => y = hf x ∧ wipeE E3 vs1 = wipeE E vs1) () (f E1)) () (b1 (kf x) (wipeE E vs1)))
    (fin : Q (acc ++ xs.map hf) (wipeE E vs1)), lcaK b1 tYesF f vs1 acc Q g (xs.map kf) E
  | [], acc, g, hl, turn, fin => by
    have fin : Q (acc ++ []) _ := fin
    rw [List.append_nil] at fin
    exact fin
  | x :: xs, acc, g, hl, turn, fin => by
    obtain ⟨E1, e1, w⟩ := turn x (List.mem_cons_self ..)
    rw [List.length_cons] at hl
    unfold lcaK
    rw [List.map_cons, lcL]
    simp only [e1]
    have ey : ∀ k : Bool → Nv → R (List D), ((tYesF E1).nox.bind k) = k true E1 := fun _ => rfl
    rw [ey, if_pos rfl, wp_bind, wp_nox]
    have w : wp (f E1) _ := w
    refine wp_imp w fun y E3 ⟨hy, he⟩ => ?_
    subst hy
    rw [if_pos (by omega), he]
    refine lca_fun (xs := xs) (acc := acc ++ [hf x]) (g := ()) (by rw [List.length_append, List.length_singleton]; omega) (fun z hz => turn z (List.mem_cons_of_mem _ hz)) ?_
    rw [List.map_cons] at fin
    rw [List.append_assoc]
    exact fin
end
/-! own == by kind -/
section
variable {E : Nv} {QD : D → Nv → Prop} {c N : Nat} {fn : Fn} {a b : Ar} {g : Tg (fn, QD)} {n1 : List Str} {d1 : List D}
abbrev eqR (fn : Fn) (a b : Ar) (QD : D → Nv → Prop) (E : Nv) : Prop := calK fn [a, b] (fun d E2 => run (fun k E3 => QD (.bl k) E3) () (R.some (asB d) E2)) () E (lend E 0 [a, b])
theorem eqK_oth {c' : Nat} {n2 : List Str} {d2 : List D} (h : c < N) (h' : c' < N) : eqK N c fn a b QD g E (some (.ins c n1 d1)) (some (.ins c' n2 d2)) = eqR fn a b QD E := eqK_s (by simp [eqKind, h, h'])
theorem eqK_ins {n2 : List Str} {d2 : List D} : eqK N c fn a b QD g E (some (.ins c n1 d1)) (some (.ins c n2 d2)) = eqR fn a b QD E := eqK_s (by simp [eqKind])
theorem eqK_tup {ds : List D} : eqK N c fn a b QD g E (some (.ins c n1 d1)) (some (.tup ds)) = eqR fn a b QD E := eqK_s rfl
theorem eqK_lst {ds : List D} : eqK N c fn a b QD g E (some (.ins c n1 d1)) (some (.lst ds)) = eqR fn a b QD E := eqK_s rfl
theorem eqK_non : eqK N c fn a b QD g E (some (.ins c n1 d1)) (some .non) = eqR fn a b QD E := eqK_s rfl
theorem eqK_int {i : Int} : eqK N c fn a b QD g E (some (.ins c n1 d1)) (some (.int i)) = eqR fn a b QD E := eqK_s rfl
theorem eqK_str {i : Str} : eqK N c fn a b QD g E (some (.ins c n1 d1)) (some (.str i)) = eqR fn a b QD E := eqK_s rfl
theorem eqK_bl {i : Bool} : eqK N c fn a b QD g E (some (.ins c n1 d1)) (some (.bl i)) = eqR fn a b QD E := eqK_s rfl
end
end FL

namespace FL
open PySem PySem.Spec PyProof.Rows L2

/-! ## x is True, x is not False -/
def rIsBA : R2 := fun x y H Q => ∃ b : Bool, y = .bl b ∧ Q (.bl (decide (x = .bl b))) H
def rNotBA : R2 := fun x y H Q => ∃ b : Bool, y = .bl b ∧ Q (.bl (!decide (x = .bl b))) H
theorem op_isBA {X : Cx} : OpR X (compareOp .Is) rIsBA := by
  intro pins s σ H x y v u Q I rx ry h
  obtain ⟨b, rfl, q⟩ := h
  cases (show u = Value.bool b from ry)
  have no : ∀ w : V, w ≠ .bl b → Q (.bl (decide (w = .bl b))) H → Q (.bl false) H := fun w e q => by
    rw [decide_eq_false e] at q; exact q
  cases x with
  | bl a =>
    cases (show v = Value.bool a from rx)
    by_cases e : a = b
    · subst e
      exact wpAny_is_self rfl ⟨.bl true, H, I, rfl, by simpa using q⟩
    · exact wpAny_is_other rfl (fun z => e (Value.bool.inj z)) ⟨.bl false, H, I, rfl, by simpa [e] using q⟩
  | non => cases (show v = Value.none from rx); exact wpAny_is_other rfl (fun z => by cases z) ⟨.bl false, H, I, rfl, no .non (by intro z; cases z) q⟩
  | int i => obtain ⟨t, rfl⟩ := rx; exact wpAny_is_other rfl (fun z => by cases z) ⟨.bl false, H, I, rfl, no (.int i) (by intro z; cases z) q⟩
  | str i => obtain ⟨t, rfl⟩ := rx; exact wpAny_is_other rfl (fun z => by cases z) ⟨.bl false, H, I, rfl, no (.str i) (by intro z; cases z) q⟩
  | byt i => obtain ⟨t, rfl⟩ := rx; exact wpAny_is_other rfl (fun z => by cases z) ⟨.bl false, H, I, rfl, no (.byt i) (by intro z; cases z) q⟩
  | flt i => obtain ⟨t, rfl⟩ := rx; exact wpAny_is_other rfl (fun z => by cases z) ⟨.bl false, H, I, rfl, no (.flt i) (by intro z; cases z) q⟩
  | ref a => cases (show v = Value.ref a from rx); exact wpAny_is_other rfl (fun z => by cases z) ⟨.bl false, H, I, rfl, no (.ref a) (by intro z; cases z) q⟩
  | ty a => cases (show v = Value.type a from rx); exact wpAny_is_other rfl (fun z => by cases z) ⟨.bl false, H, I, rfl, no (.ty a) (by intro z; cases z) q⟩
def isBlD (b : Bool) : D → Option Bool
  | .bl a => some (a == b)
  | .raw _ => none
  | _ => some false
def oIsB (d e : D) : Option D := match e with
  | .bl b => (isBlD b d).map .bl
  | _ => none
theorem isBl_ok {g : Gm} {F H : Hp} {d : D} {v : V} {b c : Bool} (rd : RepH g F H d v) (h : isBlD c d = some b) : decide (v = .bl c) = b := by
  have no : ∀ w : V, w ≠ .bl c → some false = some b → decide (w = .bl c) = b := fun w e z => by cases z; exact decide_eq_false e
  rcases rd with rd | ⟨p, o, rfl, _, _⟩
  · cases d with
    | bl a =>
      cases (show v = V.bl a from rd)
      cases h
      by_cases e : a = c
      · subst e; simp
      · simp [e]
    | raw n => cases h
    | non => cases (show v = V.non from rd); exact no _ (by intro z; cases z) h
    | int i => cases (show v = V.int i from rd); exact no _ (by intro z; cases z) h
    | str i => cases (show v = V.str i from rd); exact no _ (by intro z; cases z) h
    | ty i => cases (show v = V.ty i from rd); exact no _ (by intro z; cases z) h
    | cls i => cases (show v = V.ref _ from rd); exact no _ (by intro z; cases z) h
    | tup ds => obtain ⟨a, xs, rfl, _⟩ := rd; exact no _ (by intro z; cases z) h
    | lst ds => obtain ⟨a, xs, rfl, _⟩ := rd; exact no _ (by intro z; cases z) h
    | scr ds => obtain ⟨a, rfl, _⟩ := rd; exact no _ (by intro z; cases z) h
    | ins _ _ _ => obtain ⟨a, dx, xs, rfl, _⟩ := rd; exact no _ (by intro z; cases z) h
    | emp => obtain ⟨a, rfl, _⟩ := rd; exact no _ (by intro z; cases z) h
    | dk _ _ => obtain ⟨a, xs, rfl, _⟩ := rd; exact no _ (by intro z; cases z) h
    | dt _ _ => obtain ⟨a, xs, rfl, _⟩ := rd; exact no _ (by intro z; cases z) h
  · cases d with
    | lst ds => exact no _ (by intro z; cases z) h
    | ins _ _ _ => exact no _ (by intro z; cases z) h
    | dk _ _ => exact no _ (by intro z; cases z) h
    | dt _ _ => exact no _ (by intro z; cases z) h
    | _ => rename_i ow; exact ow.elim
theorem op2_isB (g : Gm) : Op2 g rIsBA oIsB := by
  intro F H v u d e z Q sf rd re ho k
  cases e <;> try (simp [oIsB] at ho; done)
  rename_i c
  unfold oIsB at ho
  obtain ⟨b, h1, rfl⟩ := Option.map_eq_some_iff.mp ho
  refine ⟨c, re.bl, ?_⟩
  rw [isBl_ok rd h1]; exact k _ _ _ .refl rfl

/-! ## a.join(b) -/
def strsD : List D → Option (List Str)
  | [] => some []
  | .str s :: ds => match strsD ds with
    | some ys => some (s :: ys)
    | none => none
  | _ => none
theorem repl_strsD {g : Gm} {F : Hp} : ∀ {ds : List D} {ns : List Str} {xs : List V}, RepL g F ds xs → strsD ds = some ns → xs = ns.map V.str
  | [], ns, xs, r, e => by
    cases e
    exact r
  | d :: ds, ns, xs, r, e => by
    cases d with
    | str i =>
      rw [strsD] at e
      obtain ⟨x, ys, rfl, rx, ry⟩ := r
      cases z : strsD ds with
      | none => rw [z] at e; cases e
      | some ms =>
        rw [z] at e
        cases e
        rw [repl_strsD ry z]
        obtain rfl : x = .str i := rx
        rfl
    | _ => cases e
def joinS (a : Str) (ds : List D) : Option D := match strsD ds with
  | some ys => if (ys.map (·.length)).sum + ys.length * a.length ≤ 16777216 then some (.str (Txt.join a ys)) else none
  | none => none
def oJoin : D → D → Option D
  | .str a, .lst ds => joinS a ds
  | .str a, .tup ds => joinS a ds
  | _, _ => none
def resJoin (E : Nv) (a b : Ar) : R D := R.some (r2 oJoin (a.get E) (b.get E)) E
def fJoin (fa fb : Nv → R Ar) : Nv → R D := fun E => (fa E).bind fun a E1 => match a.get E1 with
  | some (.str _) => (fb E1).bind fun b E2 => resJoin E2 a b
  | _ => .bad
section
variable {X : Cx} {g : Gm} {W : WX} {e : Expr}
theorem fe_join {fa fb : Nv → R Ar} (hK : X.K = g.K) (h : PE X e (tM1 (fun x xs H Q => ∃ a p, ∃ ys : List Str, x = .str a ∧ xs = [.ref p] ∧ (SqL X.K H p (ys.map V.str) ∨ SqT X.K H p (ys.map V.str)) ∧
      (ys.map (·.length)).sum + ys.length * a.length ≤ 16777216 ∧ Q (.str (Txt.join a ys)) H) (tG g W (relA g) fa) (tG g W (relA g) fb))) : FE X g W e (fJoin fa fb) := peImp h fun σ H Q ⟨ρ, G, E, F, st, q⟩ =>
  bindE st q fun a E1 v F1 H1 st1 s1 r1 q1 => by
    cases z : a.get E1 with
    | none => simp only [z] at q1; exact q1.elim
    | some d =>
      simp only [z] at q1
      cases d with
      | str x =>
        have rv := ar_ok st1 r1 z
        obtain rfl := rv.str
        refine ⟨⟨x, rfl⟩, bindE st1 q1 fun b E2 u F2 H2 st2 s2 r2' q2 => ?_⟩
        unfold resJoin r2 at q2
        cases za : a.get E2 with
        | none => simp only [za] at q2; exact q2.elim
        | some d1 =>
          cases zb : b.get E2 with
          | none => simp only [za, zb] at q2; exact q2.elim
          | some d2 =>
            simp only [za, zb] at q2
            cases d1 with
            | str x1 =>
              have e1 := (ar_ok st2 (r1.mono s2) za).str
              cases e1
              have rb := ar_ok st2 r2' zb
              have fin : ∀ (p : Addr) (xs : List V) (ds : List D), u = .ref p → (SqL X.K H2 p xs ∨ SqT X.K H2 p xs) → RepL g F2 ds xs → post g W (relD g) ρ G F2 σ Q (R.some (joinS x ds) E2) →
                  ∃ a p, ∃ ys : List Str, V.str x = .str a ∧ [u] = [.ref p] ∧ (SqL X.K H2 p (ys.map V.str) ∨ SqT X.K H2 p (ys.map V.str)) ∧ (ys.map (·.length)).sum + ys.length * a.length ≤ 16777216 ∧ Q (.str (Txt.join a ys)) H2 := by
                intro p xs ds eu hs rl q3
                subst eu
                unfold joinS at q3
                cases zs : strsD ds with
                | none => simp only [zs] at q3; exact q3.elim
                | some ys =>
                  simp only [zs] at q3
                  by_cases hl : (ys.map (·.length)).sum + ys.length * x.length ≤ 16777216
                  · rw [if_pos hl] at q3
                    have ex := repl_strsD rl zs
                    subst ex
                    exact ⟨x, p, ys, rfl, rfl, hs, hl, q3 (.str (Txt.join x ys)) F2 H2 st2 (Same.refl _) rfl⟩
                  · rw [if_neg hl] at q3; exact q3.elim
              cases d2 with
              | lst ds =>
                obtain ⟨p, xs, eu, hp, rl⟩ := rb.lst st2.sf
                exact fin p xs ds eu (.inl (.of hp)) rl q2
              | tup ds =>
                obtain ⟨p, xs, eu, hp, rl⟩ := rb.tup st2.sf
                exact fin p xs ds eu (.inr (by rw [hK]; exact hp)) rl q2
              | _ => exact q2.elim
            | _ => exact q2.elim
      | _ => exact q1.elim
end
/-! ## runs -/
def strK (Q : Prop) (_ : Tg Q) (o : Option D) : Prop := ∃ s, o = some (.str s) ∧ Q
def wlK (J : Nv → Prop) (Q : Fl → Nv → Prop) (_ : Tg (J, Q)) (fl : Fl) (E : Nv) : Prop := match fl with
  | .nx => J E
  | .ct => J E
  | .bk => Q .nx E
  | fl => Q fl E
def whK (s : Nv → R Fl) (J : Nv → Prop) (Q : Fl → Nv → Prop) (_ : Tg (s, J, Q)) (b : Bool) (E : Nv) : Prop := if b = true then run (wlK J Q ()) () (s E) else Q .nx E
section
variable {E : Nv} {QD : D → Nv → Prop} {QS : Fl → Nv → Prop} {t : Nv → R Bool} {s : Nv → R Fl} {fa fb : Nv → R Ar} {d : D} {J : Nv → Prop}
theorem strK_s {Q : Prop} {g : Tg Q} {x : Str} : strK Q g (some (.str x)) = Q := by
  unfold strK; exact propext ⟨fun ⟨_, _, q⟩ => q, fun q => ⟨_, rfl, q⟩⟩
theorem x_fJoin {g : Tg QD} : run QD g (fJoin fa fb E) = run (fun a E1 => strK (run (fun b E2 => run QD () (R.some (r2 oJoin (a.get E2) (b.get E2)) E2)) () (fb E1)) () (a.get E1)) () (fa E) := by
  unfold run fJoin; rw [wp_bind]; congr; funext a E1
  cases a.get E1 with
  | none => simp [strK, wp]
  | some d =>
    cases d with
    | str x =>
      simp only
      rw [strK_s, wp_bind]; rfl
    | _ => simp [strK, wp]
theorem wlK_nx {g : Tg (J, QS)} : wlK J QS g .nx E = J E := rfl
theorem wlK_ct {g : Tg (J, QS)} : wlK J QS g .ct E = J E := rfl
theorem wlK_bk {g : Tg (J, QS)} : wlK J QS g .bk E = QS .nx E := rfl
theorem wlK_rt {g : Tg (J, QS)} : wlK J QS g (.rt d) E = QS (.rt d) E := rfl
theorem wlK_rn {g : Tg (J, QS)} : wlK J QS g (.rn d) E = QS (.rn d) E := rfl
theorem whK_t {g : Tg (s, J, QS)} : whK s J QS g true E = run (wlK J QS ()) () (s E) := rfl
theorem whK_f {g : Tg (s, J, QS)} : whK s J QS g false E = QS .nx E := rfl
theorem whK_if {g : Tg (s, J, QS)} {b : Bool} (h1 : b = true → run (wlK J QS ()) () (s E)) (h2 : b = false → QS .nx E) : whK s J QS g b E := by
  cases b with
  | true => exact h1 rfl
  | false => exact h2 rfl
theorem while_run' (P : Nat → Nv → Prop) (turn : ∀ k E, P k E → run (whK s (fun E2 => ∃ j, j < k ∧ P j E2) QS ()) () (t E)) : ∀ (n k : Nat) (E : Nv), k < n → P k E → wp (whileN t s n E) QS
  | 0, k, E, hk, _ => absurd hk (by omega)
  | n + 1, k, E, hk, p => by
    rw [whileN, wp_bind]
    have w : wp (t E) _ := turn k E p
    refine wp_imp w fun b E1 q => ?_
    cases b with
    | false => rw [if_neg Bool.false_ne_true]; exact q
    | true =>
      rw [if_pos rfl]
      have q : wp (s E1) (wlK (fun E2 => ∃ j, j < k ∧ P j E2) QS ()) := q
      revert q
      cases s E1 with
      | exc _ _ _ => exact fun q => q.elim
      | bad => exact fun q => q.elim
      | val fl E2 =>
        cases fl with
        | nx => rintro ⟨j, hj, pj⟩; exact while_run' P turn n j E2 (by omega) pj
        | ct => rintro ⟨j, hj, pj⟩; exact while_run' P turn n j E2 (by omega) pj
        | bk => exact fun q => q
        | rt x => exact fun q => q
        | rn x => exact fun q => q
/-- while, by what holds with k turns left at most -/
theorem while_run {n : Nat} {g : Tg QS} (P : Nat → Nv → Prop) (k : Nat) (hk : k < n) (h0 : P k E) (turn : ∀ k E, P k E → run (whK s (fun E2 => ∃ j, j < k ∧ P j E2) QS ()) () (t E)) : run QS g (whileN t s n E) := while_run' P turn n k E hk h0
theorem x_pop {ds : List D} {d : D} : mPop (.lst (ds ++ [d])) [] = some (d, .lst ds) := by
  unfold mPop; simp
theorem x_pop' {ds : List D} {d : D} (h : ds[ds.length - 1]? = some d) : mPop (.lst ds) [] = some (d, .lst ds.dropLast) := by
  unfold mPop; simp only [h]
theorem x_extT {ds es : List D} : mExtend (.lst ds) [.tup es] = if ds.length + es.length ≤ sizeLine then some (.non, .lst (ds ++ es)) else none := rfl
theorem rT3 {x : D} : rIsT (some x) (some [.ty "bool", .ty "int", .ty "str"]) = (tyName x).bind fun t => some (.bl (subTy t "bool" || (subTy t "int" || subTy t "str"))) := by
  have h2 : (3 : Nat) ≤ sizeLine := sl16 (by omega)
  have ht : tyNames [.ty "bool", .ty "int", .ty "str"] = some ["bool", "int", "str"] := by
    unfold tyNames tyNames tyNames tyNames
    simp only [tgs_bool, tgs_int, tgs_str, if_true]
  unfold rIsT
  simp only
  cases tyName x with
  | none => rfl
  | some t => simp [ht, h2]
theorem rT2 {x : D} : rIsT (some x) (some [.ty "int", .ty "str"]) = (tyName x).bind fun t => some (.bl (subTy t "int" || subTy t "str")) := by
  have h2 : (2 : Nat) ≤ sizeLine := sl16 (by omega)
  have ht : tyNames [.ty "int", .ty "str"] = some ["int", "str"] := by
    unfold tyNames tyNames tyNames
    simp only [tgs_int, tgs_str, if_true]
  unfold rIsT
  simp only
  cases tyName x with
  | none => rfl
  | some t => simp [ht, h2]
end
end FL

namespace FL
open PySem PySem.Spec PyProof.Rows L2

/-! ## o.m(..): a method of the class, what is raised wished for at the caller's slots -/
def tMethE (C : Addr) (m : Str) (sp : Sp) (E : L2.St → XK) (ta : TE) (t : TA) : TE := fun σ H Q => ta σ H fun x H1 => ∃ a dx fs, x = .ref a ∧ H1 a = some (.ins C dx fs) ∧ fs.lookup m = none ∧
  t σ H1 fun vs H2 => sp (x :: vs) H2 Q (E σ)
def tFldC (K : PySem.W.Frag) (m : Str) (f : Addr) (sp : Sp) (E : L2.St → XK) (ta : TE) (t : TA) : TE := fun σ H Q => ta σ H fun x H1 => ∃ a C dx fs, x = .ref a ∧ H1 a = some (.ins C dx fs) ∧ Cls K C ∧ NoAttr K C m ∧ fs.lookup m = some (.ref f) ∧
  t σ H1 fun vs H2 => sp vs H2 Q (E σ)
section
variable {X : Cx} {CX : CXT} {k : Nat} {f C : Addr} {fd : FuncData} {ps : List Str} {sp : Sp} {E : L2.St → XK} {m : Str} {p pos apos : Pos} {e o : Expr} {es : List Expr} {ta : TE} {t : TA}
theorem pe_methE {pl : Sem Bool} (he : PE X o ta) (c : Cls X.K C) (hm : Meth X.K C m f) (F : FnOk X.prog X.w X.K X.mg X.base CX k f fd ps sp) (hr : Room k X.A) (hb : Binds X.K fd ps []) (hx : ∀ σ, PassesAt CX X σ (E σ)) (ha : PA X (e :: es) t)
    (hst : starEach (e :: es) X.env = (false, eval e X.env) :: starEach es X.env := by rfl) (hpl : (backTo pos (starEach es X.env)).any (·.1) = false := by rfl)
    (ht : eval (.Call (.Attribute o m apos) (e :: es) [] pos) X.env = (do
      let ov ← eval o X.env
      standAt apos.atName
      let (f, first) ← holding [ov] (getMethod ov m pl)
      callWith pos f first (backTo pos (starEach (e :: es) X.env)) (backToKw pos (keywordEach [] X.env))) := by rfl) :
    PE X (.Call (.Attribute o m apos) (e :: es) [] pos) (tMethE C m sp E ta t) := by
  refine ⟨fun pins s σ H Q I h => ?_⟩
  refine PySem.W.methodCall_KW (pl := pl) (thn (he.run pins s σ H _ I h) fun u s1 ⟨x, H1, I1, rx, a, dx, fs, ex, ea, l, q⟩ => ?_) ht
  subst ex
  obtain rfl : u = Value.ref a := rx
  refine getmeth_ok I1 ea c hm l ?_
  refine PySem.W.callWith_K (first := [.ref a]) (h₀ := X.base) I.ok.mod.kin hm.kp (thn (ha.run pos pins s1 σ H1 _ I1 q) fun us s2 ⟨vs, H2, I2, r, q2⟩ => ⟨I2.kIn, ?_⟩) hst hpl
  exact run_fnS (us := .ref a :: us) (vs := .ref a :: vs) F hr hb (hx σ) I2 (.cons rfl r) q2
/-- a field that holds a function, found as a method is -/
theorem getmeth_fld {A : Around} {E : Value → Shared → Prop} {pins : List (Addr × Obj)} {σ : L2.St} {H : Hp} {s : Shared} {a C dx : Addr} {fs : List (Str × V)} {v : V} {pl : Sem Bool} {Q : Value × List Value → Shared → Prop} (I : Inv X pins σ H s) (e : H a = some (.ins C dx fs)) (c : Cls X.K C) (n : NoAttr X.K C m) (l : fs.lookup m = some v)
    (h : ∀ u s', Inv X pins σ H s' → RelV v u → Q (u, []) s') : wpAny (model X.prog X.w) A (getMethod (.ref a) m pl) Q E s := by
  obtain ⟨mA, O, r, _, _, _⟩ := ins_get I.hok e
  obtain ⟨od, J, hl⟩ := O.look
  have hg := PySem.W.plainGet_of (c.get m)
  have hcan := PySem.F.canon_object_ga
  unfold getMethod specialOf
  refine wpAny_bind (wpAny_bind (J.type.here ((PySem.W.looks_findIn I.kIn hg.1).here ?_)))
  dsimp only
  rw [hcan, if_neg (by decide)]
  refine wpAny_bind (wpAny_bind (J.type.here ((PySem.W.looks_findIn I.kIn hg.2).here ?_)))
  refine wpAny_bind (wpAny_bind (J.type.here ((PySem.W.looks_findIn I.kIn n).here ?_)))
  exact wpAny_bind (getattr_ok I e c n l fun u s' I' ru => wpAny_pure (h u s' I' ru))
theorem pe_fldC {pl : Sem Bool} (he : PE X o ta) (hk : PySem.W.keepIn X.K (.ref f) = true) (F : FnOk X.prog X.w X.K X.mg X.base CX k f fd ps sp) (hr : Room k X.A) (hb : Binds X.K fd ps []) (hx : ∀ σ, PassesAt CX X σ (E σ)) (ha : PA X (e :: es) t)
    (hst : starEach (e :: es) X.env = (false, eval e X.env) :: starEach es X.env := by rfl) (hpl : (backTo pos (starEach es X.env)).any (·.1) = false := by rfl)
    (ht : eval (.Call (.Attribute o m apos) (e :: es) [] pos) X.env = (do
      let ov ← eval o X.env
      standAt apos.atName
      let (f, first) ← holding [ov] (getMethod ov m pl)
      callWith pos f first (backTo pos (starEach (e :: es) X.env)) (backToKw pos (keywordEach [] X.env))) := by rfl) :
    PE X (.Call (.Attribute o m apos) (e :: es) [] pos) (tFldC X.K m f sp E ta t) := by
  refine ⟨fun pins s σ H Q I h => ?_⟩
  refine PySem.W.methodCall_KW (pl := pl) (thn (he.run pins s σ H _ I h) fun u s1 ⟨x, H1, I1, rx, a, C, dx, fs, ex, ea, c, n, l, q⟩ => ?_) ht
  subst ex
  obtain rfl : u = Value.ref a := rx
  refine getmeth_fld I1 ea c n l fun u s1' I1' ru => ?_
  obtain rfl : u = Value.ref f := ru
  refine PySem.W.callWith_K (first := []) (h₀ := X.base) I.ok.mod.kin hk (thn (ha.run pos pins s1' σ H1 _ I1' q) fun us s2 ⟨vs, H2, I2, r, q2⟩ => ⟨I2.kIn, ?_⟩) hst hpl
  exact run_fnS F hr hb (hx σ) I2 r q2
theorem pe_some {ι : Type} {P : ι → Prop} {T : ι → TE} (h : ∀ c, P c → PE X e (T c)) : PE X e (fun σ H Q => ∃ c, P c ∧ T c σ H Q) := ⟨fun pins s σ H Q I ⟨c, hc, q⟩ => (h c hc).run pins s σ H Q I q⟩
end
section
variable {X : Cx} {CX : CXT} {k : Nat} {f C : Addr} {fd : FuncData} {ps : List Str} {sp : Sp} {E : L2.St → XK} {x m : Str} {p pos apos : Pos} {o : Expr} {ta : TE}
theorem pe_callS0 (F : FnOk X.prog X.w X.K X.mg X.base CX k f fd ps sp) (hr : Room k X.A) (hg : Gl X x) (hm : X.mg x = some (.ref f)) (hk : PySem.W.keepIn X.K (.ref f) = true) (hb : Binds X.K fd ps []) (hx : ∀ σ, PassesAt CX X σ (E σ))
    (hdb : (x == ("__debug__" : Str)) = false := by decide) : PE X (.Call (.Name x p) [] [] pos) (tCallS sp E tNil) := by
  refine ⟨fun pins s σ H Q I h => ?_⟩
  refine wpAny_Call_Name_kw (ld_glob I hg hm ?_ hdb)
  exact PySem.W.callWith_K0 I.kIn hk (run_fnS (us := []) F hr hb (hx σ) I .nil h)
end
section
variable {X : Cx} {g : Gm} {W : WX} {e : Expr}
theorem fe_call0 {fn : Fn} (h : PE X e (tCallS (spF g 0 fn) (WE W) tNil)) : FE X g W e (fCall fn (fAs [])) := peImp h fun σ H Q ⟨ρ, G, E, F, st, q⟩ => resC_ok st (show ArsOk g F σ [] [] from rfl) rfl q
theorem fn_call0 {fn : Fn} (h : PE X e (tCallS (spF g 0 fn) (WE W) tNil)) : FN X g W e (fCallN fn (fAs [])) := peImp h fun σ H Q ⟨ρ, G, E, F, st, q⟩ => resCN_ok st (show ArsOk g F σ [] [] from rfl) rfl q
end
/-! ## the same on data -/
def fMeth (cs : List Nat) (tab : Nat → Fn) (m : Str) (fo : Nv → R Ar) (fs : Nv → R (List Ar)) : Nv → R D := fun E => (fo E).bind fun a E1 => match a.get E1 with
  | some (.ins c ns ds) => if cs.contains c = true ∧ (lookD m ns ds).isNone = true ∧ ns.length = ds.length then (fs E1).bind fun as E2 => resC (tab c) (a :: as) E2 else .bad
  | _ => .bad
def fFldC (ks : List Nat) (tab : Nat → Fn) (m : Str) (fo : Nv → R Ar) (fs : Nv → R (List Ar)) : Nv → R D := fun E => (fo E).bind fun a E1 => match a.get E1 with
  | some (.ins c ns ds) => match lookD m ns ds with
    | some (.raw k) => if ks.contains k = true then (fs E1).bind fun as E2 => resC (tab k) as E2 else .bad
    | _ => .bad
  | _ => .bad
theorem lookD_none {m : Str} : ∀ {ns : List Str} {ds : List D} {xs : List V}, ds.length = xs.length → lookD m ns ds = none → (ns.zip xs).lookup m = none
  | [], _, _, _, _ => rfl
  | n :: ns, [], [], _, _ => rfl
  | n :: ns, [], _ :: _, h, _ => by simp at h
  | n :: ns, _ :: _, [], h, _ => by simp at h
  | n :: ns, d :: ds, x :: xs, h, e => by
    unfold lookD at e
    by_cases hm : m = n
    · rw [if_pos hm] at e; cases e
    · rw [if_neg hm] at e
      rw [List.zip_cons_cons, List.lookup_cons]
      have : (m == n) = false := by simpa using hm
      rw [this]
      exact lookD_none (by simpa using h) e
section
variable {X : Cx} {g : Gm} {W : WX} {e : Expr}
theorem fe_meth {cs : List Nat} {tab : Nat → Fn} {m : Str} {fo : Nv → R Ar} {fs : List (Nv → R Ar)} {n : Nat} (c0 : Nat) (h0 : cs.contains c0 = true) (hn : fs.length + 1 = n)
    (h : PE X e (fun σ H Q => ∃ c, cs.contains c = true ∧ tMethE (g.cls c) m (spF g n (tab c)) (WE W) (tG g W (relA g) fo) (tG g W (relAs g) (fAs fs)) σ H Q)) : FE X g W e (fMeth cs tab m fo (fAs fs)) := peImp h fun σ H Q ⟨ρ, G, E, F, st, q⟩ => by
  unfold fMeth at q
  revert q
  cases z : fo E with
  | bad => exact fun q => q.elim
  | exc c fs' E' =>
    intro q
    exact ⟨c0, h0, ρ, G, E, F, st, by rw [z]; exact q⟩
  | val a E1 =>
    intro q
    have q : post g W (relD g) ρ G F σ Q (match a.get E1 with
      | some (.ins c ns ds) => if cs.contains c = true ∧ (lookD m ns ds).isNone = true ∧ ns.length = ds.length then ((fAs fs) E1).bind fun as E2 => resC (tab c) (a :: as) E2 else .bad
      | _ => .bad) := q
    cases za : a.get E1 with
    | none => simp only [za] at q; exact q.elim
    | some d =>
      simp only [za] at q
      cases d with
      | ins c ns ds =>
        simp only at q
        by_cases hc : cs.contains c = true ∧ (lookD m ns ds).isNone = true ∧ ns.length = ds.length
        · rw [if_pos hc] at q
          refine ⟨c, hc.1, ρ, G, E, F, st, ?_⟩
          rw [z]
          intro v F1 H1 st1 s1 r1
          obtain ⟨p, dx, xs, rfl, hp, hl, rl⟩ := (ar_ok st1 r1 za).ins st1.sf
          refine ⟨p, dx, _, rfl, hp, lookD_none rl.length (by simpa using hc.2.1), ?_⟩
          refine bindA st1 (post.mono s1 q) fun as E2 vs F2 H2 la st2 s2 r2 q2 => ?_
          exact resC_ok st2 (show ArsOk g F2 σ (a :: as) _ from ⟨_, _, rfl, ArOk.mono s2 r1, r2⟩) (by rw [List.length_cons, ← r2.length, la, hn]) q2
        · rw [if_neg hc] at q; exact q.elim
      | _ => exact q.elim
theorem fe_fldC {ks : List Nat} {tab : Nat → Fn} {fa : Nat → Addr} {m : Str} {fo : Nv → R Ar} {fs : List (Nv → R Ar)} {n : Nat} (k0 : Nat) (h0 : ks.contains k0 = true) (hn : fs.length = n) (hK : X.K = g.K) (hc : ∀ c, Cls g.K (g.cls c)) (hm : ∀ c, NoAttr g.K (g.cls c) m)
    (hr : ∀ k, ks.contains k = true → g.raw k = .ref (fa k))
    (h : PE X e (fun σ H Q => ∃ k, ks.contains k = true ∧ tFldC X.K m (fa k) (spF g n (tab k)) (WE W) (tG g W (relA g) fo) (tG g W (relAs g) (fAs fs)) σ H Q)) : FE X g W e (fFldC ks tab m fo (fAs fs)) := peImp h fun σ H Q ⟨ρ, G, E, F, st, q⟩ => by
  unfold fFldC at q
  revert q
  cases z : fo E with
  | bad => exact fun q => q.elim
  | exc c fs' E' =>
    intro q
    exact ⟨k0, h0, ρ, G, E, F, st, by rw [z]; exact q⟩
  | val a E1 =>
    intro q
    have q : post g W (relD g) ρ G F σ Q (match a.get E1 with
      | some (.ins c ns ds) => match lookD m ns ds with
        | some (.raw k) => if ks.contains k = true then ((fAs fs) E1).bind fun as E2 => resC (tab k) as E2 else .bad
        | _ => .bad
      | _ => .bad) := q
    cases za : a.get E1 with
    | none => simp only [za] at q; exact q.elim
    | some d =>
      simp only [za] at q
      cases d with
      | ins c ns ds =>
        simp only at q
        cases zl : lookD m ns ds with
        | none => simp only [zl] at q; exact q.elim
        | some y =>
          simp only [zl] at q
          cases y with
          | raw k =>
            simp only at q
            by_cases hk : ks.contains k = true
            · rw [if_pos hk] at q
              refine ⟨k, hk, ρ, G, E, F, st, ?_⟩
              rw [z]
              intro v F1 H1 st1 s1 r1
              obtain ⟨p, dx, xs, rfl, hp, hl, rl⟩ := (ar_ok st1 r1 za).ins st1.sf
              obtain ⟨w, a1, a2⟩ := lookD_ok rl zl
              have a2 : w = g.raw k := a2
              rw [a2, hr k hk] at a1
              refine ⟨p, g.cls c, dx, _, rfl, hp, by rw [hK]; exact hc c, by rw [hK]; exact hm c, a1, ?_⟩
              refine bindA st1 (post.mono s1 q) fun as E2 vs F2 H2 la st2 s2 r2 q2 => ?_
              exact resC_ok st2 r2 (by rw [← r2.length, la, hn]) q2
            · rw [if_neg hk] at q; exact q.elim
          | _ => exact q.elim
      | _ => exact q.elim
end
/-! ## runs -/
def mthK (cs : List Nat) (tab : Nat → Fn) (m : Str) (fl : Nv → R (List Ar)) (a : Ar) (Q : D → Nv → Prop) (_ : Tg (tab, fl, Q)) (E : Nv) (o : Option D) : Prop := match o with
  | some (.ins c ns ds) => cs.contains c = true ∧ (lookD m ns ds).isNone = true ∧ ns.length = ds.length ∧ run (fun as E2 => calK (tab c) (a :: as) Q () E2 (lend E2 0 (a :: as))) () (fl E)
  | _ => False
def fldK (ks : List Nat) (tab : Nat → Fn) (fl : Nv → R (List Ar)) (Q : D → Nv → Prop) (_ : Tg (tab, fl, Q)) (E : Nv) (o : Option D) : Prop := match o with
  | some (.raw k) => ks.contains k = true ∧ run (fun as E2 => calK (tab k) as Q () E2 (lend E2 0 as)) () (fl E)
  | _ => False
section
variable {E : Nv} {QD : D → Nv → Prop} {fo : Nv → R Ar} {fl : Nv → R (List Ar)} {cs : List Nat} {tab : Nat → Fn} {m : Str} {a : Ar}
theorem x_fMeth {g : Tg QD} : run QD g (fMeth cs tab m fo fl E) = run (fun a E1 => mthK cs tab m fl a QD () E1 (a.get E1)) () (fo E) := by
  unfold run fMeth; rw [wp_bind]; congr; funext a E1
  cases a.get E1 with
  | none => simp [mthK, wp]
  | some d =>
    cases d with
    | ins c ns ds =>
      simp only [mthK]
      by_cases hc : cs.contains c = true ∧ (lookD m ns ds).isNone = true ∧ ns.length = ds.length
      · rw [if_pos hc, wp_bind]
        have e : ∀ P : Prop, P = (cs.contains c = true ∧ (lookD m ns ds).isNone = true ∧ ns.length = ds.length ∧ P) := fun P => propext ⟨fun p => ⟨hc.1, hc.2.1, hc.2.2, p⟩, fun p => p.2.2.2⟩
        rw [← e]
        unfold run; congr; funext as E2
        rw [← run_resC (g := ())]; rfl
      · rw [if_neg hc]
        exact propext ⟨fun p => p.elim, fun p => (hc ⟨p.1, p.2.1, p.2.2.1⟩).elim⟩
    | _ => simp [mthK, wp]
theorem mthK_s {c : Nat} {ns : List Str} {ds : List D} {g : Tg (tab, fl, QD)} : mthK cs tab m fl a QD g E (some (.ins c ns ds)) = (cs.contains c = true ∧ (lookD m ns ds).isNone = true ∧ ns.length = ds.length ∧ run (fun as E2 => calK (tab c) (a :: as) QD () E2 (lend E2 0 (a :: as))) () (fl E)) := rfl
theorem x_fFldC {g : Tg QD} : run QD g (fFldC cs tab m fo fl E) = run (fun a E1 => fldK cs tab fl QD () E1 (rFld m (a.get E1))) () (fo E) := by
  unfold run fFldC; rw [wp_bind]; congr; funext a E1
  cases a.get E1 with
  | none => simp [fldK, rFld, wp]
  | some d =>
    cases d with
    | ins c ns ds =>
      simp only [rFld]
      cases lookD m ns ds with
      | none => simp [fldK, wp]
      | some y =>
        cases y with
        | raw k =>
          simp only [fldK]
          by_cases hk : cs.contains k = true
          · rw [if_pos hk, wp_bind]
            simp only [hk, true_and]
            unfold run; congr; funext as E2
            rw [← run_resC (g := ())]; rfl
          · rw [if_neg hk]; exact propext ⟨fun p => p.elim, fun p => (hk p.1).elim⟩
        | _ => simp [fldK, wp]
    | _ => simp [fldK, rFld, wp]
theorem fldK_s {k : Nat} {g : Tg (tab, fl, QD)} : fldK cs tab fl QD g E (some (.raw k)) = (cs.contains k = true ∧ run (fun as E2 => calK (tab k) as QD () E2 (lend E2 0 as)) () (fl E)) := rfl
end
end FL

/-! list(zip(a, b)) of two tuples -/
namespace FLZ
open PySem PySem.W PySem.Calls PyProof.Rows PyProof.V PySem.Spec RZ
section
variable {prog : Program} {w : World} {A : Around} {E : Value → Shared → Prop} {s : Shared}
theorem zipT_next_item_held {z TI TO T i1 i2 l1 l2 : Addr} {f : Bool} {oT : Obj} {k1 k2 : Nat} {xs ys : Array Value} {x y : Value} {Q : Value → Shared → Prop} (D : ZipApart z TI TO i1 i2 l1 l2)
    (hz : IsZipHeld s.heap z TI TO T f) (hT : s.heap.get? T = some oT) (hTI : IsPair s.heap TI (.ref i1) (.ref i2))
    (h1 : s.heap.IsTupleIter i1 l1 k1) (h2 : s.heap.IsTupleIter i2 l2 k2) (hl1 : s.heap.IsTuple l1 xs) (hl2 : s.heap.IsTuple l2 ys) (hx : xs[k1]? = some x) (hy : ys[k2]? = some y)
    (hQ : ∀ h', IsZipHeld h' z TI TO T true → h'.IsTupleIter i1 l1 (k1 + 1) → h'.IsTupleIter i2 l2 (k2 + 1) → IsPair h' s.heap.objs.size x y → h'.objs.size = s.heap.objs.size + 1 →
      (∀ c o, c ≠ z → c ≠ i1 → c ≠ i2 → s.heap.get? c = some o → h'.get? c = some o) → Q (.ref s.heap.objs.size) { s with heap := h' }) :
    wpAny (model prog w) A (Builtin.«zip.__next__» ⟨[.ref z], []⟩) (fun fin s' => ∃ v, fin = .done (.ret v) ∧ Q v s') E s := by
  show wpAny _ _ (field (.ref z) 2 >>= _) _ _ _
  refine wpAny_bind (wpAny_field hz rfl (x := .bool false) rfl ?_)
  show wpAny _ _ (field (.ref z) 3 >>= _) _ _ _
  refine wpAny_bind (wpAny_field hz rfl (x := .ref TI) rfl ?_)
  refine wpAny_bind (wpAny_seqItems hTI rfl ?_)
  show wpAny _ _ (Builtin.SmallTypes.ownedTupleIsFree (.ref z) >>= _) _ _ _
  refine wpAny_bind (wpAny_tupleHeld_zip hz hT fun h₁ hz₁ hs₁ => ?_)
  simp only [Bool.false_eq_true, if_false]
  refine wpAny_bind ?_
  rw [← Array.forIn_toList]
  simp only [List.forIn_cons, List.forIn_nil]
  refine wpAny_bind (wpAny_bind (wpAny_holding ?_))
  show wpAny _ _ (Builtin.SmallTypes.nextOf (.ref i1) >>= _) _ _ _
  refine wpAny_bind (nextOf_tuple_item (s := { s with heap := h₁ }) (h1.extBut hs₁.extBut D.i1z) (hl1.extBut hs₁.extBut D.l1z) hx fun h₂ h1₂ hs₂ => wpAny_pure ?_)
  refine wpAny_pure ?_
  refine wpAny_bind (wpAny_bind (wpAny_holding ?_))
  show wpAny _ _ (Builtin.SmallTypes.nextOf (.ref i2) >>= _) _ _ _
  refine wpAny_bind (nextOf_tuple_item (s := { s with heap := h₂ }) ((h2.extBut hs₁.extBut D.i2z).extBut hs₂.extBut D.i12.symm) ((hl2.extBut hs₁.extBut D.l2z).extBut hs₂.extBut D.l2i1) hy fun h₃ h2₃ hs₃ => wpAny_pure ?_)
  refine wpAny_pure (wpAny_pure ?_)
  show wpAny _ _ (newTuple [x, y] >>= _) _ _ _
  refine wpAny_bind (wpAny_newTuple ?_)
  have hsz : h₃.objs.size = s.heap.objs.size := by rw [hs₃.1, hs₂.1, hs₁.1]
  have hz₃ : IsZipHeld h₃ z TI TO T true := hs₃.extBut _ _ D.i2z.symm (hs₂.extBut _ _ D.i1z.symm hz₁)
  have hk : ∀ c o, c ≠ z → c ≠ i1 → c ≠ i2 → s.heap.get? c = some o → h₃.get? c = some o := fun c o c1 c2 c3 e => hs₃.extBut _ _ c3 (hs₂.extBut _ _ c2 (hs₁.extBut _ _ c1 e))
  have h1₃ : h₃.IsTupleIter i1 l1 (k1 + 1) := h1₂.extBut hs₃.extBut D.i12
  refine wpAny_pure ⟨_, rfl, ?_⟩
  show Q (.ref h₃.objs.size) _
  have hp : IsPair (h₃.push { cls := .type "tuple", data := .seq #[x, y] }) h₃.objs.size x y := Heap.get?_push_size _ rfl
  have hz4 : (h₃.push { cls := .type "tuple", data := .seq #[x, y] }).objs.size = h₃.objs.size + 1 := Heap.size_push ..
  rw [hsz] at hp hz4 ⊢
  exact hQ _ (Heap.get?_push_of_some _ hz₃) (h1₃.at fun o e => Heap.get?_push_of_some _ e) (h2₃.at fun o e => Heap.get?_push_of_some _ e) hp hz4 fun c o c1 c2 c3 e => Heap.get?_push_of_some _ (hk c o c1 c2 c3 e)
theorem zipT_next_end_held {z TI TO T i1 i2 l1 l2 : Addr} {f : Bool} {oT : Obj} {k1 k2 : Nat} {xs ys : Array Value} {Q : Fin → Shared → Prop} (hh : A.handled = none) (D : ZipApart z TI TO i1 i2 l1 l2)
    (hz : IsZipHeld s.heap z TI TO T f) (hT : s.heap.get? T = some oT) (hTI : IsPair s.heap TI (.ref i1) (.ref i2))
    (h1 : s.heap.IsTupleIter i1 l1 k1) (h2 : s.heap.IsTupleIter i2 l2 k2) (hl1 : s.heap.IsTuple l1 xs) (hl2 : s.heap.IsTuple l2 ys) (hend : xs[k1]? = none ∨ ys[k2]? = none)
    (hE : ∀ h' e, (∀ c o, c ≠ z → c ≠ i1 → c ≠ i2 → s.heap.get? c = some o → h'.get? c = some o) → (∃ o, h'.get? e = some o ∧ o.cls = .type "StopIteration") → E (.ref e) { s with heap := h' }) :
    wpAny (model prog w) A (Builtin.«zip.__next__» ⟨[.ref z], []⟩) Q E s := by
  show wpAny _ _ (field (.ref z) 2 >>= _) _ _ _
  refine wpAny_bind (wpAny_field hz rfl (x := .bool false) rfl ?_)
  show wpAny _ _ (field (.ref z) 3 >>= _) _ _ _
  refine wpAny_bind (wpAny_field hz rfl (x := .ref TI) rfl ?_)
  refine wpAny_bind (wpAny_seqItems hTI rfl ?_)
  show wpAny _ _ (Builtin.SmallTypes.ownedTupleIsFree (.ref z) >>= _) _ _ _
  refine wpAny_bind (wpAny_tupleHeld_zip hz hT fun h₁ hz₁ hs₁ => ?_)
  simp only [Bool.false_eq_true, if_false]
  refine wpAny_bind ?_
  rw [← Array.forIn_toList]
  simp only [List.forIn_cons, List.forIn_nil]
  refine wpAny_bind (wpAny_bind (wpAny_holding ?_))
  show wpAny _ _ (Builtin.SmallTypes.nextOf (.ref i1) >>= _) _ _ _
  cases hx : xs[k1]? with
  | none =>
    refine wpAny_bind (nextOf_tuple_end (s := { s with heap := h₁ }) hh (h1.extBut hs₁.extBut D.i1z) (hl1.extBut hs₁.extBut D.l1z) hx fun h₂ e hs₂ he => ?_)
    exact hE h₂ e (fun c o c1 c2 _ x => hs₂ _ _ c2 (hs₁.extBut _ _ c1 x)) he
  | some x =>
    have hy : ys[k2]? = none := by rcases hend with h | h; rw [hx] at h; cases h; exact h
    refine wpAny_bind (nextOf_tuple_item (s := { s with heap := h₁ }) (h1.extBut hs₁.extBut D.i1z) (hl1.extBut hs₁.extBut D.l1z) hx fun h₂ h1₂ hs₂ => wpAny_pure ?_)
    refine wpAny_pure ?_
    refine wpAny_bind (wpAny_bind (wpAny_holding ?_))
    show wpAny _ _ (Builtin.SmallTypes.nextOf (.ref i2) >>= _) _ _ _
    refine wpAny_bind (nextOf_tuple_end (s := { s with heap := h₂ }) hh ((h2.extBut hs₁.extBut D.i2z).extBut hs₂.extBut D.i12.symm) ((hl2.extBut hs₁.extBut D.l2z).extBut hs₂.extBut D.l2i1) hy fun h₃ e hs₃ he => ?_)
    exact hE h₃ e (fun c o c1 c2 c3 x => hs₃ _ _ c3 (hs₂.extBut _ _ c2 (hs₁.extBut _ _ c1 x))) he
theorem pyNext_zipT_item_held {z TI TO T i1 i2 l1 l2 : Addr} {f : Bool} {oT : Obj} {k1 k2 : Nat} {xs ys : Array Value} {x y : Value} {Q : Option Value → Shared → Prop} (D : ZipApart z TI TO i1 i2 l1 l2)
    (hz : IsZipHeld s.heap z TI TO T f) (hT : s.heap.get? T = some oT) (hTI : IsPair s.heap TI (.ref i1) (.ref i2))
    (h1 : s.heap.IsTupleIter i1 l1 k1) (h2 : s.heap.IsTupleIter i2 l2 k2) (hl1 : s.heap.IsTuple l1 xs) (hl2 : s.heap.IsTuple l2 ys) (hx : xs[k1]? = some x) (hy : ys[k2]? = some y)
    (hQ : ∀ h', IsZipHeld h' z TI TO T true → h'.IsTupleIter i1 l1 (k1 + 1) → h'.IsTupleIter i2 l2 (k2 + 1) → IsPair h' s.heap.objs.size x y → h'.objs.size = s.heap.objs.size + 1 →
      (∀ c o, c ≠ z → c ≠ i1 → c ≠ i2 → s.heap.get? c = some o → h'.get? c = some o) → Q (some (.ref s.heap.objs.size)) { s with heap := h' }) :
    wpAny (model prog w) A (pyNext (.ref z)) Q E s := by
  have hTy : s.TypeIs (.ref z) "zip" := ⟨_, hz, rfl⟩
  unfold pyNext
  exact wpAny_bind (wpAny_attempt (wpAny_callSpecial?_slot (name := Str.ofString "__next__") hTy F.slot_zip_next
    (wpAny_call_entry F.slot_zip_next hTy F.entry_zip_next
      (zipT_next_item_held D hz hT hTI h1 h2 hl1 hl2 hx hy fun h' a1 a3 a4 a5 a6 a7 => wpAny_pure (hQ h' a1 a3 a4 a5 a6 a7)) (F.args_zip_next_1 _))))
theorem pyNext_zipT_end_held {z TI TO T i1 i2 l1 l2 : Addr} {f : Bool} {oT : Obj} {k1 k2 : Nat} {xs ys : Array Value} {Q : Option Value → Shared → Prop} (hh : A.handled = none) (D : ZipApart z TI TO i1 i2 l1 l2)
    (hz : IsZipHeld s.heap z TI TO T f) (hT : s.heap.get? T = some oT) (hTI : IsPair s.heap TI (.ref i1) (.ref i2))
    (h1 : s.heap.IsTupleIter i1 l1 k1) (h2 : s.heap.IsTupleIter i2 l2 k2) (hl1 : s.heap.IsTuple l1 xs) (hl2 : s.heap.IsTuple l2 ys) (hend : xs[k1]? = none ∨ ys[k2]? = none)
    (hQ : ∀ h', (∀ c o, c ≠ z → c ≠ i1 → c ≠ i2 → s.heap.get? c = some o → h'.get? c = some o) → Q none { s with heap := h' }) : wpAny (model prog w) A (pyNext (.ref z)) Q E s := by
  have hTy : s.TypeIs (.ref z) "zip" := ⟨_, hz, rfl⟩
  unfold pyNext
  refine wpAny_bind (wpAny_attempt (wpAny_callSpecial?_slot (name := Str.ofString "__next__") hTy F.slot_zip_next
    (wpAny_call_entry F.slot_zip_next hTy F.entry_zip_next (zipT_next_end_held hh D hz hT hTI h1 h2 hl1 hl2 hend fun h' e hk he => ?_) (F.args_zip_next_1 _))))
  obtain ⟨o, ho, hc⟩ := he
  refine wpAny_bind (wpAny_isInstance (T := "StopIteration") (b := true) ⟨o, ho, hc⟩ isSubtype_stop ?_)
  exact wpAny_pure (hQ _ hk)
theorem len_zip : typeLookup (.type "zip") "__len__" = pure none := by rw [typeLookup_type, builtinLookup_eq_fast]; kernel_rfl
theorem hint_zip0 : typeLookup (.type "zip") "__length_hint__" = pure none := by rw [typeLookup_type, builtinLookup_eq_fast]; kernel_rfl
theorem hint_zip {r : Addr} (hT : s.TypeIs (.ref r) "zip") {Q : Bool → Shared → Prop} (h : Q true s) : wpAny (model prog w) A (Builtin.List.listLengthHint (.ref r)) Q E s := by
  unfold Builtin.List.listLengthHint
  refine wpAny_bind (wpAny_specialOf hT len_zip ?_)
  refine wpAny_ite_split (fun hab => absurd hab (by decide +kernel)) (fun _ => ?_)
  refine wpAny_ite_split (fun hab => absurd hab (by decide +kernel)) (fun _ => ?_)
  refine wpAny_bind (wpAny_specialOf hT hint_zip0 ?_)
  exact wpAny_pure h
end
/-- a zip of two tuples at its turn i -/
structure ZSt (h : Heap) (z TI TO i1 i2 l1 l2 S : Addr) (i : Nat) : Prop where
  ti : IsPair h TI (.ref i1) (.ref i2)
  it1 : h.IsTupleIter i1 l1 i
  it2 : h.IsTupleIter i2 l2 i
  out : (IsZip h z TI TO .none ∧ ∃ a b, IsPair h TO a b) ∨ ∃ T f oT, IsZipHeld h z TI TO T f ∧ h.get? T = some oT ∧ T ≠ z ∧ T ≠ i1 ∧ T ≠ i2 ∧ T ≠ S
structure ZSep (z TI TO i1 i2 l1 l2 S : Addr) : Prop where
  ap : ZipApart z TI TO i1 i2 l1 l2
  Sz : S ≠ z
  STI : S ≠ TI
  STO : S ≠ TO
  S1 : S ≠ i1
  S2 : S ≠ i2
  Sl1 : S ≠ l1
  Sl2 : S ≠ l2
section
variable {prog : Program} {w : World} {A : Around} {E : Value → Shared → Prop} {s : Shared} {z TI TO i1 i2 l1 l2 S : Addr} {i : Nat}
theorem ZSt.keep {h h' : Heap} (x : ZSt h z TI TO i1 i2 l1 l2 S i) (D : ZSep z TI TO i1 i2 l1 l2 S) (hk : ∀ b o, b ≠ S → h.get? b = some o → h'.get? b = some o) : ZSt h' z TI TO i1 i2 l1 l2 S i := by
  obtain ⟨a, b, c, d⟩ := x
  refine ⟨hk _ _ D.STI.symm a, b.at fun o e => hk _ _ D.S1.symm e, c.at fun o e => hk _ _ D.S2.symm e, ?_⟩
  rcases d with ⟨d, x, y, e⟩ | ⟨T, f, oT, d, e, n1, n2, n3, n4⟩
  · exact .inl ⟨hk _ _ D.Sz.symm d, x, y, hk _ _ D.STO.symm e⟩
  · exact .inr ⟨T, f, oT, hk _ _ D.Sz.symm d, hk _ _ n4 e, n1, n2, n3, n4⟩
theorem z_item {xs ys : Array Value} {x y : Value} {Q : Option Value → Shared → Prop} (D : ZSep z TI TO i1 i2 l1 l2 S) (hst : ZSt s.heap z TI TO i1 i2 l1 l2 S i) (hS : S < s.heap.objs.size)
    (hl1 : s.heap.IsTuple l1 xs) (hl2 : s.heap.IsTuple l2 ys) (hx : xs[i]? = some x) (hy : ys[i]? = some y)
    (hQ : ∀ h', ZSt h' z TI TO i1 i2 l1 l2 S (i + 1) → IsPair h' s.heap.objs.size x y → h'.objs.size = s.heap.objs.size + 1 →
      (∀ c o, c ≠ z → c ≠ TO → c ≠ i1 → c ≠ i2 → s.heap.get? c = some o → h'.get? c = some o) → Q (some (.ref s.heap.objs.size)) { s with heap := h' }) :
    wpAny (model prog w) A (pyNext (.ref z)) Q E s := by
  obtain ⟨ti, a1, a2, out⟩ := hst
  have lt1 : i1 < s.heap.objs.size := by obtain ⟨_, e, _⟩ := a1; exact Heap.lt_size e
  have lt2 : i2 < s.heap.objs.size := by obtain ⟨_, e, _⟩ := a2; exact Heap.lt_size e
  rcases out with ⟨hz, a, b, hTO⟩ | ⟨T, f, oT, hz, hT, n1, n2, n3, n4⟩
  · have ltz : z < s.heap.objs.size := Heap.lt_size hz
    refine pyNext_zipT_item D.ap hz ti hTO a1 a2 hl1 hl2 hx hy fun h' z' TO' b1 b2 p sz k => hQ h' ⟨k _ _ D.ap.TIz D.ap.TITO D.ap.TIi1 D.ap.TIi2 ti, b1, b2, .inr ⟨_, false, _, z', p, Nat.ne_of_gt ltz, Nat.ne_of_gt lt1, Nat.ne_of_gt lt2, Nat.ne_of_gt hS⟩⟩ p sz k
  · have ltz : z < s.heap.objs.size := Heap.lt_size hz
    refine pyNext_zipT_item_held D.ap hz hT ti a1 a2 hl1 hl2 hx hy fun h' z' b1 b2 p sz k => hQ h' ⟨k _ _ D.ap.TIz D.ap.TIi1 D.ap.TIi2 ti, b1, b2, .inr ⟨T, true, oT, z', k _ _ n1 n2 n3 hT, n1, n2, n3, n4⟩⟩ p sz fun c o c1 _ c3 c4 e => k c o c1 c3 c4 e
theorem z_done {xs ys : Array Value} {Q : Option Value → Shared → Prop} (hh : A.handled = none) (D : ZSep z TI TO i1 i2 l1 l2 S) (hst : ZSt s.heap z TI TO i1 i2 l1 l2 S i)
    (hl1 : s.heap.IsTuple l1 xs) (hl2 : s.heap.IsTuple l2 ys) (hend : xs[i]? = none ∨ ys[i]? = none)
    (hQ : ∀ h', (∀ c o, c ≠ z → c ≠ TO → c ≠ i1 → c ≠ i2 → s.heap.get? c = some o → h'.get? c = some o) → Q none { s with heap := h' }) :
    wpAny (model prog w) A (pyNext (.ref z)) Q E s := by
  obtain ⟨ti, a1, a2, out⟩ := hst
  rcases out with ⟨hz, a, b, hTO⟩ | ⟨T, f, oT, hz, hT, n1, n2, n3, n4⟩
  · exact pyNext_zipT_end hh D.ap hz ti hTO a1 a2 hl1 hl2 hend fun h' k => hQ h' k
  · exact pyNext_zipT_end_held hh D.ap hz hT ti a1 a2 hl1 hl2 hend fun h' k => hQ h' fun c o c1 _ c3 c4 e => k c o c1 c3 c4 e
/-- the tuples that came -/
structure ZG (ps : List (Value × Value)) (lo : Addr) (h : Heap) (as : List Addr) : Prop where
  rise : as.Pairwise (· < ·)
  above : ∀ a ∈ as, lo < a
  pairs : ∀ (j : Nat) (a : Addr), as[j]? = some a → ∃ x y, ps[j]? = some (x, y) ∧ IsPair h a x y
theorem ZG.there {ps : List (Value × Value)} {lo : Addr} {h : Heap} {as : List Addr} (g : ZG ps lo h as) {a : Addr} (ha : a ∈ as) : a < h.objs.size := by
  obtain ⟨j, hj⟩ := List.mem_iff_getElem?.mp ha
  obtain ⟨_, _, _, e⟩ := g.pairs j a hj
  exact Heap.lt_size e
theorem z_loop {R : Result → Shared → Prop} {xs ys : List Value} (hh : A.handled = none) (D : ZSep z TI TO i1 i2 l1 l2 S) (hlo : z < S ∧ TO < S ∧ i1 < S ∧ i2 < S) (hn : xs.length ≤ sizeLine) (hlen : xs.length = ys.length) (res : Value) {h₁ : Heap}
    (hR : ∀ h' tk acc c as, (∀ b o, b ≠ S → b ≠ z → b ≠ TO → b ≠ i1 → b ≠ i2 → h₁.get? b = some o → h'.get? b = some o) → h'.get? S = some { cls := .type "list", dict := none, data := .seq acc c, slots := #[] } → as.length = xs.length → ZG (xs.zip ys) S h' as →
      acc.toList = as.map Value.ref → R (.ok (.ret res)) { s with heap := h', toks := tk }) :
    ∀ (k i : Nat) (h : Heap) (tk c : Nat) (acc : Array Value) (as : List Addr), xs.length - i = k → i ≤ xs.length → ZSt h z TI TO i1 i2 l1 l2 S i → h.IsTuple l1 xs.toArray → h.IsTuple l2 ys.toArray →
      (∀ b o, b ≠ S → b ≠ z → b ≠ TO → b ≠ i1 → b ≠ i2 → h₁.get? b = some o → h.get? b = some o) →
      h.get? S = some { cls := .type "list", dict := none, data := .seq acc c, slots := #[] } → acc.toList = as.map Value.ref → as.length = i → ZG (xs.zip ys) S h as →
      codeAny (model prog w) A (.builtin "list.extend.loop" ⟨[.ref S, .ref z, res], []⟩) R { s with heap := h, toks := tk } := by
  intro k
  induction k with
  | zero =>
    intro i h tk c acc as hk hi hst d1 d2 hkeep hS hacc hal hG
    refine codeAny_builtin PySem.F.entry_extend_loop ?_
    rw [Around.under_plainId PySem.F.plain_extend_loop _]
    show wpAny _ A.in1 (pyNext (.ref z) >>= _) _ _ _
    refine wpAny_bind (z_done (s := { s with heap := h, toks := tk }) (A := A.in1) hh D hst d1 d2 (.inl (by simp; omega)) fun h' he => ?_)
    refine wpAny_pure (hR h' tk acc c as (fun b o c1 c2 c3 c4 c5 e => he b o c2 c3 c4 c5 (hkeep b o c1 c2 c3 c4 c5 e)) (he S _ D.Sz D.STO D.S1 D.S2 hS) (by omega) ⟨hG.rise, hG.above, fun j a hj => ?_⟩ hacc)
    obtain ⟨x, y, e1, e2⟩ := hG.pairs j a hj
    have := hG.above a (List.mem_of_getElem? hj)
    exact ⟨x, y, e1, he a _ (Nat.ne_of_gt (Nat.lt_trans hlo.1 this)) (Nat.ne_of_gt (Nat.lt_trans hlo.2.1 this)) (Nat.ne_of_gt (Nat.lt_trans hlo.2.2.1 this)) (Nat.ne_of_gt (Nat.lt_trans hlo.2.2.2 this)) e2⟩
  | succ k ih =>
    intro i h tk c acc as hk hi hst d1 d2 hkeep hS hacc hal hG
    have hlt : i < xs.length := by omega
    obtain ⟨x, hx⟩ : ∃ p, xs[i]? = some p := ⟨xs[i], List.getElem?_eq_getElem hlt⟩
    obtain ⟨y, hy⟩ : ∃ p, ys[i]? = some p := ⟨ys[i]'(by omega), List.getElem?_eq_getElem (by omega)⟩
    have hsz : acc.size = i := by rw [← Array.length_toList, hacc, List.length_map, hal]
    refine codeAny_builtin PySem.F.entry_extend_loop ?_
    rw [Around.under_plainId PySem.F.plain_extend_loop _]
    show wpAny _ A.in1 (pyNext (.ref z) >>= _) _ _ _
    refine wpAny_bind (z_item (s := { s with heap := h, toks := tk }) D hst (Heap.lt_size hS) d1 d2 (by simpa using hx) (by simpa using hy) fun h' hst' ht hz hkp => ?_)
    dsimp only at ht hz hkp ⊢
    have hS' := hkp S _ D.Sz D.STO D.S1 D.S2 hS
    have up : ∀ b o, b ≠ S → h'.get? b = some o → (h'.update S (Obj.mapSeq (·.push (Value.ref h.objs.size)))).get? b = some o := fun b o hb e => (Heap.get?_update_other _ _ (Ne.symm hb)).trans e
    have hSl : S < h.objs.size := Heap.lt_size hS
    show wpAny _ A.in1 (updateSeq S (·.push (Value.ref h.objs.size)) >>= _) _ _ _
    refine wpAny_bind ?_
    have dl1 : ∀ o, h.get? l1 = some o → (h'.update S (Obj.mapSeq (·.push (Value.ref h.objs.size)))).get? l1 = some o := fun o e => up _ _ D.Sl1.symm (hkp _ _ D.ap.l1z D.ap.l1TO D.ap.l1i1 D.ap.l1i2 e)
    have dl2 : ∀ o, h.get? l2 = some o → (h'.update S (Obj.mapSeq (·.push (Value.ref h.objs.size)))).get? l2 = some o := fun o e => up _ _ D.Sl2.symm (hkp _ _ D.ap.l2z D.ap.l2TO D.ap.l2i1 D.ap.l2i2 e)
    refine wpAny_updateSeq hS' rfl (wpAny_pure ⟨plainId_quiet PySem.F.plain_extend_loop _, ih (i + 1) _ tk _ (acc.push (Value.ref h.objs.size)) (as ++ [h.objs.size]) (by omega) hlt (hst'.keep D up) (d1.at dl1) (d2.at dl2)
      (fun b o c1 c2 c3 c4 c5 e => up b o c1 (hkp b o c2 c3 c4 c5 (hkeep b o c1 c2 c3 c4 c5 e))) (Heap.get?_update_self _ hS' rfl) (by rw [Array.toList_push, hacc, List.map_append]; rfl) (by rw [List.length_append, hal]; rfl) ⟨?_, ?_, ?_⟩⟩) (by rw [hsz]; omega) (by show (acc.push (Value.ref h.objs.size)).size ≤ sizeLine + 1; rw [Array.size_push, hsz]; omega)
    · refine List.pairwise_append.mpr ⟨hG.rise, List.pairwise_singleton _ _, fun a ha b hb => ?_⟩
      rw [List.mem_singleton.mp hb]
      exact hG.there ha
    · intro a ha
      rcases List.mem_append.mp ha with ha | ha
      · exact hG.above a ha
      · rw [List.mem_singleton.mp ha]; exact hSl
    · intro j b hj
      rcases Nat.lt_trichotomy j as.length with h1 | h1 | h1
      · rw [List.getElem?_append_left h1] at hj
        obtain ⟨x', y', e1, e2⟩ := hG.pairs j b hj
        have hb := hG.above b (List.mem_of_getElem? hj)
        exact ⟨x', y', e1, up b _ (Nat.ne_of_gt hb) (hkp b _ (Nat.ne_of_gt (Nat.lt_trans hlo.1 hb)) (Nat.ne_of_gt (Nat.lt_trans hlo.2.1 hb)) (Nat.ne_of_gt (Nat.lt_trans hlo.2.2.1 hb)) (Nat.ne_of_gt (Nat.lt_trans hlo.2.2.2 hb)) e2)⟩
      · subst h1
        have hb : h.objs.size = b := by simpa using hj
        subst hb
        exact ⟨x, y, by rw [hal, List.getElem?_zip_eq_some]; exact ⟨hx, hy⟩, up _ _ (Nat.ne_of_gt hSl) ht⟩
      · have hnone : (as ++ [h.objs.size])[j]? = none := List.getElem?_eq_none (by rw [List.length_append, List.length_singleton]; omega)
        rw [hnone] at hj; cases hj

theorem z_extend {R : Result → Shared → Prop} {xs ys : List Value} (hh : A.handled = none) (D : ZSep z TI TO i1 i2 l1 l2 S) (hlo : z < S ∧ TO < S ∧ i1 < S ∧ i2 < S) (hn : xs.length ≤ sizeLine) (hlen : xs.length = ys.length) (res : Value) (c₀ : Nat)
    (hz : IsZip s.heap z TI TO .none) (hst : ZSt s.heap z TI TO i1 i2 l1 l2 S 0) (d1 : s.heap.IsTuple l1 xs.toArray) (d2 : s.heap.IsTuple l2 ys.toArray) (hS : s.heap.get? S = some { cls := .type "list", data := .seq #[] c₀ })
    (hR : ∀ h' tk acc c as, (∀ b o, b ≠ S → b ≠ z → b ≠ TO → b ≠ i1 → b ≠ i2 → s.heap.get? b = some o → h'.get? b = some o) → h'.get? S = some { cls := .type "list", dict := none, data := .seq acc c, slots := #[] } → as.length = xs.length → ZG (xs.zip ys) S h' as →
      acc.toList = as.map Value.ref → R (.ok (.ret res)) { s with heap := h', toks := tk }) :
    wpAny (model prog w) A.in1 (Builtin.List.listExtendWith (.ref S) (.ref z) res)
      (fun fin s' => match fin with | .done f => R (.ok f) s' | .again c' => c'.quiet = true ∧ codeAny (model prog w) A c' R s') (fun e s' => R (.error e) s') s := by
  have key : ∀ (h : Heap) (c₁ tk : Nat), (∀ b o, b ≠ S → s.heap.get? b = some o → h.get? b = some o) →
      h.get? S = some { cls := .type "list", data := .seq #[] c₁ } → codeAny (model prog w) A (.builtin "list.extend.loop" ⟨[.ref S, .ref z, res], []⟩) R { s with heap := h, toks := tk } := by
    intro h c₁ tk hk hS₁
    exact z_loop (xs := xs) (ys := ys) (s := s) (h₁ := s.heap) hh D hlo hn hlen res hR xs.length 0 h tk c₁ #[] [] (Nat.sub_zero _) (Nat.zero_le _) (hst.keep D hk) (d1.at fun o e => hk _ _ D.Sl1.symm e) (d2.at fun o e => hk _ _ D.Sl2.symm e)
      (fun b o hb _ _ _ _ e => hk b o hb e) hS₁ rfl rfl ⟨List.Pairwise.nil, (fun _ ha => nomatch ha), (fun j a hj => by simp at hj)⟩
  have hTy : s.TypeIs (.ref z) "zip" := ⟨_, hz, rfl⟩
  unfold Builtin.List.listExtendWith
  refine wpAny_bind (wpAny_typeOf (T := "zip") hTy ?_)
  have h1 : Builtin.List.listSameRef (.ref S) (.ref z) = false := by simp [Builtin.List.listSameRef, D.Sz]
  have h2 : (Value.type "zip" == Value.type "list") = false := by decide
  have h3 : (Value.type "zip" == Value.type "tuple") = false := by decide
  simp only [h1, h2, h3, Bool.or_false, Bool.false_eq_true, if_false]
  refine wpAny_bind (wpAny_pyIter_zip hz ?_)
  refine wpAny_bind (wpAny_holding (hint_zip hTy ?_))
  refine wpAny_ite_split (fun _ => ?_) (fun _ => wpAny_pure ⟨plainId_quiet PySem.F.plain_extend_loop _, key _ c₀ _ (fun b o _ e => e) hS⟩)
  refine wpAny_bind (wpAny_rule ?_)
  refine wpAny_bind ?_
  show wpAny _ _ (updateSeq S (·.push .none) >>= fun _ => updateSeq S (·.pop)) _ _ _
  refine wpAny_bind (wpAny_updateSeq hS rfl ?_)
  have hS₂ := Heap.get?_update_self (Obj.mapSeq (·.push Value.none)) hS rfl
  refine wpAny_updateSeq (hz := by seq_fits) hS₂ rfl ?_
  have hS₃ := Heap.get?_update_self (Obj.mapSeq (·.pop)) hS₂ rfl
  refine wpAny_pure ⟨plainId_quiet PySem.F.plain_extend_loop _, key _ _ _ (fun b o hb e => ?_) hS₃⟩
  exact (Heap.get?_update_other _ _ (Ne.symm hb)).trans ((Heap.get?_update_other _ _ (Ne.symm hb)).trans e)
theorem z_init {R : Result → Shared → Prop} {xs ys : List Value} (hh : A.handled = none) (D : ZSep z TI TO i1 i2 l1 l2 S) (hlo : z < S ∧ TO < S ∧ i1 < S ∧ i2 < S) (hn : xs.length ≤ sizeLine) (hlen : xs.length = ys.length)
    (hz : IsZip s.heap z TI TO .none) (hst : ZSt s.heap z TI TO i1 i2 l1 l2 S 0) (d1 : s.heap.IsTuple l1 xs.toArray) (d2 : s.heap.IsTuple l2 ys.toArray) (hS : s.heap.get? S = some { cls := .type "list", data := .seq #[] })
    (hR : ∀ h' tk acc c as, (∀ b o, b ≠ S → b ≠ z → b ≠ TO → b ≠ i1 → b ≠ i2 → s.heap.get? b = some o → h'.get? b = some o) → h'.get? S = some { cls := .type "list", dict := none, data := .seq acc c, slots := #[] } → as.length = xs.length → ZG (xs.zip ys) S h' as →
      acc.toList = as.map Value.ref → R (.ok (.ret .none)) { s with heap := h', toks := tk }) :
    wpAny (model prog w) A.in1 (Builtin.«list.__init__» ⟨[.ref S, .ref z], []⟩)
      (fun fin s' => match fin with | .done f => R (.ok f) s' | .again c' => c'.quiet = true ∧ codeAny (model prog w) A c' R s') (fun e s' => R (.error e) s') s := by
  show wpAny _ _ (do let old ← Builtin.List.listItems (.ref S); Builtin.List.listUpdate (.ref S) (fun _ => #[]); letGo old.toList.reverse; Builtin.List.listExtendWith (.ref S) (.ref z) .none) _ _ s
  refine wpAny_bind ?_
  unfold Builtin.List.listItems
  refine wpAny_bind (wpAny_seqItems hS rfl (wpAny_pure ?_))
  show wpAny _ _ (updateSeq S (fun _ => #[]) >>= fun _ => letGo (#[] : Array Value).toList.reverse >>= fun _ => Builtin.List.listExtendWith (.ref S) (.ref z) .none) _ _ s
  refine wpAny_bind (wpAny_updateSeq hS rfl ?_)
  have hS₂ := Heap.get?_update_self (Obj.mapSeq (fun _ => (#[] : Array Value))) hS rfl
  have oth : ∀ b o, b ≠ S → s.heap.get? b = some o → (s.heap.update S (Obj.mapSeq (fun _ => (#[] : Array Value)))).get? b = some o :=
    fun b o hb e => (Heap.get?_update_other _ _ (Ne.symm hb)).trans e
  refine wpAny_bind (wpAny_letGo ?_)
  exact z_extend hh D hlo hn hlen .none _ (oth _ _ D.Sz.symm hz) (hst.keep D oth) (d1.at fun o e => oth _ _ D.Sl1.symm e) (d2.at fun o e => oth _ _ D.Sl2.symm e) hS₂ fun h' tk acc c as hk hS' hl hG hacc =>
    hR h' tk acc c as (fun b o c1 c2 c3 c4 c5 e => hk b o c1 c2 c3 c4 c5 (oth b o c1 e)) hS' hl hG hacc
theorem z_call {Q : Value → Shared → Prop} {xs ys : List Value} (hh : A.handled = none) (D : ZSep z TI TO i1 i2 l1 l2 s.heap.objs.size) (hn : xs.length ≤ sizeLine) (hlen : xs.length = ys.length)
    (hz : IsZip s.heap z TI TO .none) (hst : ZSt s.heap z TI TO i1 i2 l1 l2 s.heap.objs.size 0) (hTO : TO < s.heap.objs.size) (d1 : s.heap.IsTuple l1 xs.toArray) (d2 : s.heap.IsTuple l2 ys.toArray)
    (hQ : ∀ h' tk acc c as, (∀ b o, b ≠ z → b ≠ TO → b ≠ i1 → b ≠ i2 → s.heap.get? b = some o → h'.get? b = some o) → h'.get? s.heap.objs.size = some { cls := .type "list", dict := none, data := .seq acc c, slots := #[] } → as.length = xs.length → ZG (xs.zip ys) s.heap.objs.size h' as →
      acc.toList = as.map Value.ref → Q (.ref s.heap.objs.size) { s with heap := h', toks := tk }) :
    wpAny (model prog w) A (call (.type "list") [.ref z]) Q E s := by
  refine callType_codes (Q₁ := fun obj s₁ => obj = .ref s.heap.objs.size ∧ s₁ = { s with heap := s.heap.push { cls := .type "list", data := .seq #[] } }) PySem.F.called_list (PySem.F.typeCall_list_1 _) PySem.F.entry_list_init
    (code_list_new _ ⟨rfl, rfl⟩) fun obj s₁ h₁ => ?_
  obtain ⟨rfl, rfl⟩ := h₁
  have hS : (s.heap.push { cls := .type "list", data := .seq #[] }).get? s.heap.objs.size = some { cls := .type "list", data := .seq #[] } := Heap.get?_push_size _ rfl
  have lz : z < s.heap.objs.size := Heap.lt_size hz
  have lt1 : i1 < s.heap.objs.size := by obtain ⟨_, e, _⟩ := hst.it1; exact Heap.lt_size e
  have lt2 : i2 < s.heap.objs.size := by obtain ⟨_, e, _⟩ := hst.it2; exact Heap.lt_size e
  refine ⟨⟨_, hS, rfl⟩, PySem.F.args_list_init_2 _ _, z_init (A := A.in1) hh D ⟨lz, hTO, lt1, lt2⟩ hn hlen (Heap.get?_push_of_some _ hz) (hst.keep D fun b o _ e => Heap.get?_push_of_some _ e) (d1.at fun o e => Heap.get?_push_of_some _ e) (d2.at fun o e => Heap.get?_push_of_some _ e) hS (fun h' tk acc c as hk hS' hl hG hacc => ?_)⟩
  exact ⟨rfl, hQ h' tk acc c as (fun b o c2 c3 c4 c5 e => hk b o (Nat.ne_of_lt (Heap.lt_size e)) c2 c3 c4 c5 (Heap.get?_push_of_some _ e)) hS' hl hG hacc⟩
end
end FLZ

namespace FLZ
open PySem PySem.Spec PyProof.Rows L2 RZ
def putV : Hp → List Addr → List (V × V) → Hp
  | H, a :: as, p :: ps => putV (upd H a (.tup [p.1, p.2])) as ps
  | H, _, _ => H
theorem putV_off {b : Addr} : ∀ (as : List Addr) (ps : List (V × V)) (H : Hp), b ∉ as → putV H as ps b = H b
  | [], _, _, _ => by simp [putV]
  | _ :: _, [], _, _ => rfl
  | a :: as, p :: ps, H, h => by
    show putV (upd H a (.tup [p.1, p.2])) as ps b = H b
    rw [putV_off as ps _ (fun z => h (List.mem_cons_of_mem _ z)), upd_ne (fun z => h (by rw [z]; exact List.mem_cons_self))]
theorem putV_at : ∀ (as : List Addr) (ps : List (V × V)) (H : Hp), as.length = ps.length → as.Nodup → ∀ (j : Nat) (a : Addr) (p : V × V), as[j]? = some a → ps[j]? = some p → putV H as ps a = some (.tup [p.1, p.2])
  | [], _, _, _, _, _, _, _, h, _ => by simp at h
  | _ :: _, [], _, h, _, _, _, _, _, _ => by cases h
  | a :: as, p :: ps, H, h, hn, j, b, q, e1, e2 => by
    have hn' := List.nodup_cons.mp hn
    show putV (upd H a (.tup [p.1, p.2])) as ps b = _
    cases j with
    | zero =>
      simp at e1 e2
      subst e1; subst e2
      rw [putV_off as ps _ hn'.1, upd_same]
    | succ j => exact putV_at as ps _ (Nat.succ.inj h) hn'.2 j b q (by simpa using e1) (by simpa using e2)
theorem vals_refs : ∀ as : List Addr, Vals (as.map V.ref) (as.map Value.ref)
  | [] => .nil
  | _ :: as => .cons rfl (vals_refs as)
section
variable {X : Cx}
theorem zip_laid {pins : List (Addr × Obj)} {σ : L2.St} {H : Hp} {s : Shared} {h' : Heap} {tk : Nat} {S : Addr} {xs ys : List V} {us ws : List Value} {acc : Array Value} {c : Nat} {as : List Addr} (I : Inv X pins σ H s) (hz : xs.length ≤ sizeLine) (hle : s.heap.objs.size ≤ S)
    (vx : Vals xs us) (vy : Vals ys ws) (hlen : xs.length = ys.length)
    (hk : ∀ b o, s.heap.get? b = some o → h'.get? b = some o) (hS : h'.get? S = some { cls := .type "list", dict := none, data := .seq acc c, slots := #[] }) (hl : as.length = us.length) (hG : ZG (us.zip ws) S h' as) (hacc : acc.toList = as.map Value.ref) :
    H S = none ∧ (∀ t ∈ as, H t = none) ∧ S ∉ as ∧ as.Nodup ∧ as.length = (xs.zip ys).length ∧ Inv X pins σ (putV (upd H S (.lst (as.map V.ref))) as (xs.zip ys)) { s with heap := h', toks := tk } := by
  have l1 := vx.length
  have l2 := vy.length
  have hSn : S ∉ as := fun z => Nat.lt_irrefl _ (hG.above _ z)
  have nd : as.Nodup := List.Pairwise.imp (fun {a b} (h : a < b) => Nat.ne_of_lt h) hG.rise
  have new : ∀ t ∈ as, H t = none := fun t ht => I.hok.fresh (Nat.le_trans hle (Nat.le_of_lt (hG.above t ht)))
  have newS : H S = none := I.hok.fresh hle
  have lz : as.length = (xs.zip ys).length := by rw [List.length_zip]; omega
  have off : ∀ b, b ∉ as → b ≠ S → putV (upd H S (.lst (as.map V.ref))) as (xs.zip ys) b = H b := fun b h1 h2 => by rw [putV_off as _ _ h1, upd_ne h2]
  have low : ∀ b o, s.heap.get? b = some o → b ∉ as ∧ b ≠ S := fun b o e => ⟨fun z => absurd (Heap.lt_size e) (Nat.not_lt.mpr (Nat.le_trans hle (Nat.le_of_lt (hG.above b z)))), Nat.ne_of_lt (Nat.lt_of_lt_of_le (Heap.lt_size e) hle)⟩
  have kp : ∀ b u, H b = some u → (putV (upd H S (.lst (as.map V.ref))) as (xs.zip ys)) b = some u := fun b u e => by
    rw [off b (fun z => by rw [new b z] at e; cases e) (fun z => by rw [z, newS] at e; cases e)]
    exact e
  have eS : putV (upd H S (.lst (as.map V.ref))) as (xs.zip ys) S = some (.lst (as.map V.ref)) := by rw [putV_off as _ _ hSn, upd_same]
  refine ⟨newS, new, hSn, nd, lz, ?_⟩
  refine I.call' (ch := []) rfl ⟨fun b o q _ _ _ => hk b o q, fun b o q _ _ _ => ⟨o.slots, hk b o q⟩, fun b o q n _ => ?_, fun b o q _ => ⟨o, hk b o q⟩, fun b xs q => kp b _ q, fun b o u q => kp b _ q, fun b ps q => ⟨#[], by rw [kp b _ q]; simp⟩⟩ (fun b u q => ?_) I.bare fun b z => by simp at z
  · obtain ⟨z1, z2⟩ := low b o q
    rw [off b z1 z2]
    exact n
  · by_cases hb : b ∈ as
    · obtain ⟨j, hj⟩ := List.mem_iff_getElem?.mp hb
      obtain ⟨u0, w0, f1, f3⟩ := hG.pairs j b hj
      rw [List.getElem?_zip_eq_some] at f1
      obtain ⟨f1, f2⟩ := f1
      have jl : j < xs.length := by have := (List.getElem?_eq_some_iff.mp hj).1; omega
      have ex : xs[j]? = some xs[j] := List.getElem?_eq_getElem jl
      have ey : ys[j]? = some (ys[j]'(by omega)) := List.getElem?_eq_getElem (by omega)
      obtain ⟨u1, g1, r1⟩ := vx.get ex
      obtain ⟨w1, g2, r2⟩ := vy.get ey
      rw [f1] at g1; cases g1
      rw [f2] at g2; cases g2
      have e3 := putV_at as (xs.zip ys) (upd H S (.lst (as.map V.ref))) lz nd j b (xs[j], ys[j]'(by omega)) hj (by rw [List.getElem?_zip_eq_some]; exact ⟨ex, ey⟩)
      rw [e3] at q
      cases q
      exact ⟨by show 2 ≤ sizeLine; decide, [u0, w0], .cons r1 (.cons r2 .nil), ⟨_, f3, rfl, _, rfl⟩⟩
    · by_cases hb2 : b = S
      · rw [hb2] at q ⊢
        rw [eS] at q
        cases q
        refine ⟨by rw [List.length_map]; omega, acc.toList, c, by rw [hacc]; exact vals_refs as, ?_⟩
        rw [Array.toArray_toList]
        exact hS
      · rw [off b hb hb2] at q
        exact (I.hok b u q).stay (fun d v _ y => hk d v y) (fun d y => kp d _ y) fun d xs y => kp d _ y
def tListZip (K : PySem.W.Frag) (ta : TA) : TE := fun σ H Q => ta σ H fun vs H1 => ∃ (a b : Addr) (xs ys : List V), vs = [.ref a, .ref b] ∧ SqT K H1 a xs ∧ SqT K H1 b ys ∧ xs.length = ys.length ∧
  ∀ (p : Addr) (ts : List Addr), H1 p = none → (∀ t ∈ ts, H1 t = none) → p ∉ ts → ts.Nodup → ts.length = (xs.zip ys).length → Q (.ref p) (putV (upd H1 p (.lst (ts.map V.ref))) ts (xs.zip ys))
theorem pe_listZip {e e2 : Expr} {ta : TA} {p p2 pos pos2 : Pos} (hc : X.calm = true) (ha : PA X [e, e2] ta) (hg : Gl X "list") (hm : X.mg "list" = none) (hg2 : Gl X "zip") (hm2 : X.mg "zip" = none)
    (hs : starEach [.Call (.Name "zip" p2) [e, e2] [] pos2] X.env = (false, eval (.Call (.Name "zip" p2) [e, e2] [] pos2) X.env) :: starEach [] X.env := by rfl)
    (hs2 : starEach [e, e2] X.env = (false, eval e X.env) :: starEach [e2] X.env := by rfl) (hpl2 : (backTo pos2 (starEach [e2] X.env)).any (·.1) = false := by rfl) (hv : bootBuiltins "list" = some (.type "list") := by decide +kernel) :
    PE X (.Call (.Name "list" p) [.Call (.Name "zip" p2) [e, e2] [] pos2] [] pos) (tListZip X.K ta) := by
  refine ⟨fun pins s σ H Q I h => ?_⟩
  refine wpAny_Call_Name_kw (ld_blt I hg hm hv ?_)
  refine PyProof.Rows.callWith_type1 ?_ hs rfl
  rw [hs]
  show wpAny _ _ (spliced ((false, eval (.Call (.Name "zip" p2) [e, e2] [] pos2) X.env) :: backTo pos (starEach [] X.env))) _ _ s
  refine Calls.spliced_cons ?_
  refine Call_ (ld_blt I hg2 hm2 PyProof.Rows.boot_zip (PyProof.Rows.callWith_type1 (thn (ha.run pos2 pins s σ H _ I h) fun us s1 ⟨vs, H1, I1, r1, q1⟩ => ?_) hs2 hpl2))
  obtain ⟨a, b, xs, ys, ex, hqx, hqy, hlen, q⟩ := q1
  subst ex
  cases r1 with
  | cons r rr =>
    cases rr with
    | cons r' rr =>
      cases rr
      cases r
      cases r'
      obtain ⟨its, rv, p1, hz1⟩ := I1.tuple hqx
      obtain ⟨its2, rv2, p2', hz2⟩ := I1.tuple hqy
      have l1 := rv.length
      have l2 := rv2.length
      obtain ⟨o1, ho1, _⟩ := id p1
      obtain ⟨o2, ho2, _⟩ := id p2'
      have la : a < s1.heap.objs.size := Heap.lt_size ho1
      have lb : b < s1.heap.objs.size := Heap.lt_size ho2
      refine call_zipT (show s1.heap.IsTuple a its.toArray from p1) (show s1.heap.IsTuple b its2.toArray from p2') fun h0 hz hTI hTO h1 h2 hsz hk => ?_
      refine Calls.spliced_nil ?_
      have ap := PySem.W.ktu_apart s1.heap.objs.size a b la lb
      have D : ZSep (s1.heap.objs.size + 4) (s1.heap.objs.size + 2) (s1.heap.objs.size + 3) s1.heap.objs.size (s1.heap.objs.size + 1) a b h0.objs.size := by
        rw [hsz]
        refine ⟨ap, ?_, ?_, ?_, ?_, ?_, ?_, ?_⟩
        · exact Nat.ne_of_gt (by omega)
        · exact Nat.ne_of_gt (by omega)
        · exact Nat.ne_of_gt (by omega)
        · exact Nat.ne_of_gt (by omega)
        · exact Nat.ne_of_gt (by omega)
        · exact Nat.ne_of_gt (Nat.lt_trans la (by omega))
        · exact Nat.ne_of_gt (Nat.lt_trans lb (by omega))
      refine z_call (s := { s1 with heap := h0 }) (xs := its) (ys := its2) (I1.ok.hd hc) D (by omega) (by omega) hz ⟨hTI, h1, h2, .inl ⟨hz, _, _, hTO⟩⟩ (by show s1.heap.objs.size + 3 < h0.objs.size; rw [hsz]; omega) (Heap.IsTuple.at (show s1.heap.IsTuple a its.toArray from p1) fun o e => hk _ _ e) (Heap.IsTuple.at (show s1.heap.IsTuple b its2.toArray from p2') fun o e => hk _ _ e) fun h' tk acc c as hk' hS hl hG hacc => ?_
      have hk2 : ∀ b o, s1.heap.get? b = some o → h'.get? b = some o := fun c o e => by
        have lc : c < s1.heap.objs.size := Heap.lt_size e
        refine hk' c o ?_ ?_ ?_ ?_ (hk c o e)
        · exact Nat.ne_of_lt (Nat.lt_trans lc (by omega))
        · exact Nat.ne_of_lt (Nat.lt_trans lc (by omega))
        · exact Nat.ne_of_lt lc
        · exact Nat.ne_of_lt (Nat.lt_trans lc (by omega))
      obtain ⟨k1, k2, k3, k4, k5, J⟩ := zip_laid (tk := tk) I1 (by omega) (by show s1.heap.objs.size ≤ h0.objs.size; rw [hsz]; omega) rv rv2 hlen hk2 hS hl hG hacc
      exact ⟨.ref _, _, J, rfl, q _ as k1 k2 k3 k4 k5⟩
end
end FLZ

namespace FL
open PySem PySem.Spec PyProof.Rows L2 RZ

/-! ## list(zip(a, b)) -/
def fLZip (fs : Nv → R (List Ar)) : Nv → R D := fun E => (fs E).bind fun as E1 => match valsOf as with
  | some [.tup ds, .tup es] => if ds.length = es.length then .val (.lst (zipD ds es)) E1 else .bad
  | _ => .bad
section
variable {g : Gm} {ρ : Nat → Addr} {G F H : Hp} {E : Nv} {σ : L2.St}
theorem StOk.putV : ∀ (ts : List Addr) (ps : List (V × V)) {F H : Hp}, StOk g ρ G E F σ H → (∀ t ∈ ts, H t = none) → ts.Nodup → StOk g ρ G E (FLZ.putV F ts ps) σ (FLZ.putV H ts ps) ∧ Same F (FLZ.putV F ts ps)
  | [], _, _, _, st, _, _ => ⟨by simpa [FLZ.putV] using st, by simpa [FLZ.putV] using Same.refl _⟩
  | _ :: _, [], _, _, st, _, _ => ⟨st, Same.refl _⟩
  | t :: ts, p :: ps, F, H, st, hn, nd => by
    have hn' := List.nodup_cons.mp nd
    have ht := hn t List.mem_cons_self
    obtain ⟨a, b⟩ := StOk.putV ts ps (st.grow ht (.tup [p.1, p.2])) (fun u hu => by
      rw [upd_ne (fun z => hn'.1 (by rw [← z]; exact hu))]
      exact hn u (List.mem_cons_of_mem _ hu)) hn'.2
    exact ⟨a, (Same.new (st.fF ht)).trans b⟩
theorem rep_zip {F' : Hp} (s : Same F F') : ∀ {ds es : List D} {xs ys : List V} {ts : List Addr}, RepL g F ds xs → RepL g F es ys → ts.length = (xs.zip ys).length → (∀ (j : Nat) (a : Addr) (p : V × V), ts[j]? = some a → (xs.zip ys)[j]? = some p → F' a = some (.tup [p.1, p.2])) →
    RepL g F' (zipD ds es) (ts.map V.ref)
  | [], _, xs, ys, ts, r, _, hl, _ => by
    cases (show xs = [] from r)
    have : ts = [] := List.length_eq_zero_iff.mp (by simpa using hl)
    subst this
    exact rfl
  | d :: ds, [], xs, ys, ts, _, r, hl, _ => by
    cases (show ys = [] from r)
    have : ts = [] := List.length_eq_zero_iff.mp (by simpa using hl)
    subst this
    exact rfl
  | d :: ds, e :: es, _, _, ts, ⟨x, xs, rfl, r1, t1⟩, ⟨y, ys, rfl, r2, t2⟩, hl, h => by
    cases ts with
    | nil => simp at hl
    | cons t ts =>
      refine ⟨.ref t, ts.map V.ref, rfl, ⟨t, [x, y], rfl, .inl (.inl (h 0 t (x, y) rfl rfl)), ⟨x, [y], rfl, r1.mono s, y, [], rfl, r2.mono s, rfl⟩⟩, ?_⟩
      exact rep_zip s t1 t2 (by simpa using hl) fun j a p e1 e2 => h (j + 1) a p (by simpa using e1) (by simpa using e2)
end
theorem fn_lzip {X : Cx} {g : Gm} {W : WX} {e : Expr} {fs : Nv → R (List Ar)} (hK : X.K = g.K) (h : PE X e (FLZ.tListZip X.K (tG g W (relAs g) fs))) : FN X g W e (fLZip fs) := peImp h fun σ H Q ⟨ρ, G, E, F, st, q⟩ => by
  refine bindN st q fun as E1 vs F1 H1 st1 s1 r1 q1 => ?_
  cases z : valsOf as with
  | none => simp only [z] at q1; exact q1.elim
  | some l =>
    have rl := valsOf_ok r1 z
    simp only [z] at q1
    split at q1
    · rename_i ds es hh
      cases hh
      by_cases hl : ds.length = es.length
      · rw [if_pos hl] at q1
        obtain ⟨v, vs', rfl, ⟨a, xs, rfl, ha, ra⟩, w, vs'', rfl, ⟨b, ys, rfl, hb, rb⟩, hn⟩ := rl
        cases (show vs'' = [] from hn)
        refine ⟨a, b, xs, ys, rfl, by rw [hK]; exact same_t st1.sf ha, by rw [hK]; exact same_t st1.sf hb, by rw [← ra.length, ← rb.length]; exact hl, fun p ts hp ht hpn nd lt => ?_⟩
        obtain ⟨st2, sm⟩ := StOk.putV ts (xs.zip ys) (st1.temp hp (.lst (ts.map V.ref))) (fun t h => by rw [upd_ne (fun z => hpn (by rw [← z]; exact h))]; exact ht t h) nd
        refine q1 p _ _ _ st2 (st1.fG hp) ⟨_, rfl, rep_zip sm ra rb lt fun j a q e1 e2 => ?_⟩ sm
        exact FLZ.putV_at ts (xs.zip ys) _ lt nd j a q e1 e2
      · rw [if_neg hl] at q1; exact q1.elim
    · exact q1.elim

/-! ## dicts -/
def keyD : D → Option Key
  | .int i => some (.inl i)
  | .str s => some (.inr s)
  | _ => none
def findD (k : Key) (ks : List Key) (xs : List D) : Option D := match ks, xs with
  | a :: ks, x :: xs => if a = k then some x else findD k ks xs
  | _, _ => none
/-- what the dict holds at k -/
def dGet : D → D → Option (Option D)
  | .emp, k => (keyD k).map fun _ => none
  | .dk ks xs, k => (keyD k).map fun k => findD k ks xs
  | _, _ => none
def isDic : D → Bool
  | .emp => true
  | .dk _ _ => true
  | _ => false
section
variable {g : Gm} {F : Hp}
theorem keyD_ok {k : D} {y : V} {c : Key} (h : keyD k = some c) (r : Rep g F k y) : y = kV c := by
  cases k <;> simp [keyD] at h
  · subst h; exact r
  · subst h; exact r
theorem findD_ok {k : Key} : ∀ {ks : List Key} {ds : List D} {xs : List V}, ks.length = xs.length → RepL g F ds xs →
    (∀ d, findD k ks ds = some d → ∃ v, valV (ks.zip xs) k = some v ∧ Rep g F d v) ∧ (findD k ks ds = none → valV (ks.zip xs) k = none)
  | [], ds, xs, hl, _ => by
    have : xs = [] := List.length_eq_zero_iff.mp (by simpa using hl.symm)
    subst this
    exact ⟨fun d h => by simp [findD] at h, fun _ => rfl⟩
  | a :: ks, [], xs, hl, r => by
    cases (show xs = [] from r)
    simp at hl
  | a :: ks, d :: ds, _, hl, h0 => by
    obtain ⟨x, xs, rfl, r, t⟩ := h0
    obtain ⟨i1, i2⟩ := findD_ok (k := k) (ks := ks) (by simpa using hl) t
    by_cases e : a = k
    · refine ⟨fun d' h => ⟨x, ?_, ?_⟩, fun h => ?_⟩
      · exact valV_pos (p := (a, x)) e
      · simp only [findD, if_pos e] at h
        cases h
        exact r
      · simp only [findD, if_pos e] at h
        cases h
    · have ev : valV ((a, x) :: ks.zip xs) k = valV (ks.zip xs) k := valV_neg (p := (a, x)) e
      refine ⟨fun d' h => ?_, fun h => ?_⟩
      · simp only [findD, if_neg e] at h
        rw [List.zip_cons_cons, ev]
        exact i1 d' h
      · simp only [findD, if_neg e] at h
        rw [List.zip_cons_cons, ev]
        exact i2 h
theorem isDic_ok {H : Hp} {d : D} {v : V} (sf : Same F H) (r : RepH g F H d v) (h : isDic d = true) : ∃ a, v = .ref a ∧ IsD H a := by
  cases d <;> simp [isDic] at h
  · rcases r with ⟨a, e, q⟩ | ⟨p, o, e, hp, h⟩
    · exact ⟨a, e, .inl ⟨_, .inl (sf _ _ q)⟩⟩
    · exact h.elim
  · rcases r with ⟨a, xs, e, q, _⟩ | ⟨p, o, e, hp, xs, rfl, _⟩
    · exact ⟨a, e, .inl ⟨_, .inl (sf _ _ q)⟩⟩
    · exact ⟨p, e, .inl ⟨_, .inl hp⟩⟩
theorem dGet_ok {H : Hp} {d k : D} {v y : V} {o : Option D} (sf : Same F H) (r : RepH g F H d v) (rk : Rep g F k y) (h : dGet d k = some o) :
    ∃ a u, v = .ref a ∧ DGet H a y u ∧ (∀ z, o = some z → ∃ w, u = some w ∧ Rep g F z w) ∧ (o = none → u = none) := by
  cases d with
  | emp =>
    unfold dGet at h
    cases hc : keyD k with
    | none => simp [hc] at h
    | some c =>
      simp only [hc, Option.map_some, Option.some.injEq] at h
      subst h
      have hy := keyD_ok hc rk
      subst hy
      rcases r with ⟨a, e, q⟩ | ⟨p, o, e, hp, h⟩
      · exact ⟨a, none, e, .inl ⟨_, c, .inl (sf _ _ q), rfl, rfl⟩, (fun z hz => by cases hz), fun _ => rfl⟩
      · exact h.elim
  | dk ks xs =>
    unfold dGet at h
    cases hc : keyD k with
    | none => simp [hc] at h
    | some c =>
      simp only [hc, Option.map_some, Option.some.injEq] at h
      subst h
      have hy := keyD_ok hc rk
      subst hy
      rcases r with ⟨a, xs, e, q, l, rl⟩ | ⟨p, o, e, hp, xs, rfl, l, rl⟩
      · obtain ⟨i1, i2⟩ := findD_ok (k := c) l rl
        exact ⟨a, _, e, .inl ⟨_, c, .inl (sf _ _ q), rfl, rfl⟩, i1, i2⟩
      · obtain ⟨i1, i2⟩ := findD_ok (k := c) l rl
        exact ⟨p, _, e, .inl ⟨_, c, .inl hp, rfl, rfl⟩, i1, i2⟩
  | _ => simp [dGet] at h
end
/-- d.get(k, x) -/
def fGet2 (fd : Nv → R Ar) (fk fx : Nv → R D) : Nv → R D := fun E => (fd E).bind fun a E1 => match a.get E1 with
  | none => .bad
  | some d0 => if isDic d0 = true then (fk E1).bind fun k E2 => (fx E2).bind fun x E3 => match a.get E3 with
      | none => .bad
      | some d => match dGet d k with
        | none => .bad
        | some (some z) => .val z E3
        | some none => .val x E3
    else .bad
theorem fe_get2 {X : Cx} {g : Gm} {W : WX} {o e f : Expr} {apos cpos : Pos} {fd : Nv → R Ar} {fk fx : Nv → R D} (hr : X.A.units + 1 < cLine) (hd : FO X g W o fd) (hk : FE X g W e fk) (hx : FE X g W f fx) (m : M2 X o "get" apos e f cpos) :
    FE X g W (.Call (.Attribute o "get" apos) [e, f] [] cpos) (fGet2 fd fk fx) := peImp (pe_dget2 hr hd hk hx m) fun σ H Q ⟨ρ, G, E, F, st, q⟩ => by
  refine bindE st q fun a E1 v F1 H1 st1 s1 r1 q1 => ?_
  cases z : a.get E1 with
  | none => simp only [z] at q1; exact q1.elim
  | some d0 =>
    simp only [z] at q1
    by_cases c : isDic d0 = true
    · rw [if_pos c] at q1
      obtain ⟨p, hv, hD⟩ := isDic_ok st1.sf (ar_ok st1 r1 z) c
      refine ⟨p, hv, hD, ?_⟩
      refine bindE st1 q1 fun k E2 y F2 H2 st2 s2 r2 q2 => ?_
      refine bindE st2 q2 fun x E3 w F3 H3 st3 s3 r3 q3 => ?_
      cases z2 : a.get E3 with
      | none => simp only [z2] at q3; exact q3.elim
      | some d =>
        simp only [z2] at q3
        cases z3 : dGet d k with
        | none => simp only [z3] at q3; exact q3.elim
        | some o =>
          obtain ⟨b, u, hb, hg, i1, i2⟩ := dGet_ok st3.sf (ar_ok st3 (r1.mono (s2.trans s3)) z2) (r2.mono s3) z3
          rw [hv] at hb
          cases hb
          cases o with
          | none =>
            simp only [z3] at q3
            rw [i2 rfl] at hg
            exact ⟨none, hg, q3 w F3 H3 st3 (Same.refl _) r3⟩
          | some zz =>
            simp only [z3] at q3
            obtain ⟨w', rfl, rw'⟩ := i1 zz rfl
            exact ⟨some w', hg, q3 w' F3 H3 st3 (Same.refl _) rw'⟩
    · rw [if_neg c] at q1; exact q1.elim

/-- d[k] = v, d a slot -/
def hasK (k : Key) (ks : List Key) : Bool := ks.any fun a => decide (a = k)
def putKs (k : Key) (ks : List Key) : List Key := if hasK k ks = true then ks else ks ++ [k]
def mapDs (k : Key) (d : D) : List Key → List D → List D
  | a :: ks, x :: xs => (if a = k then d else x) :: mapDs k d ks xs
  | _, _ => []
def putDs (k : Key) (d : D) (ks : List Key) (xs : List D) : List D := if hasK k ks = true then mapDs k d ks xs else xs ++ [d]
section
variable {g : Gm} {F : Hp}
theorem hasK_zip {k : Key} : ∀ {ks : List Key} {xs : List V}, ks.length = xs.length → ((ks.zip xs).any fun kv => decide (kv.1 = k)) = hasK k ks
  | [], _, _ => by simp [hasK]
  | a :: ks, [], h => by simp at h
  | a :: ks, x :: xs, h => by
    have := hasK_zip (k := k) (ks := ks) (xs := xs) (by simpa using h)
    unfold hasK at this ⊢
    rw [List.zip_cons_cons, List.any_cons, List.any_cons, this]
theorem mapDs_ok {k : Key} {d : D} {v : V} (rv : Rep g F d v) : ∀ {ks : List Key} {ds : List D} {xs : List V}, ks.length = xs.length → RepL g F ds xs →
    ∃ ys, (ks.zip xs).map (fun kv => if kv.1 = k then (kv.1, v) else kv) = ks.zip ys ∧ ks.length = ys.length ∧ RepL g F (mapDs k d ks ds) ys
  | [], ds, xs, hl, _ => ⟨[], by simp, rfl, by unfold mapDs; exact rfl⟩
  | a :: ks, [], xs, hl, r => by
    cases (show xs = [] from r)
    simp at hl
  | a :: ks, d0 :: ds, _, hl, h0 => by
    obtain ⟨x, xs, rfl, r, t⟩ := h0
    obtain ⟨ys, e1, e2, e3⟩ := mapDs_ok (k := k) rv (ks := ks) (by simpa using hl) t
    refine ⟨(if a = k then v else x) :: ys, ?_, by simp [e2], ?_⟩
    · rw [List.zip_cons_cons, List.map_cons, e1, List.zip_cons_cons]
      by_cases e : a = k <;> simp [e]
    · show RepL g F ((if a = k then d else d0) :: mapDs k d ks ds) _
      refine ⟨_, ys, rfl, ?_, e3⟩
      by_cases e : a = k
      · rw [if_pos e, if_pos e]; exact rv
      · rw [if_neg e, if_neg e]; exact r
theorem putDs_ok {k : Key} {d : D} {v : V} (rv : Rep g F d v) {ks : List Key} {ds : List D} {xs : List V} (hl : ks.length = xs.length) (r : RepL g F ds xs) :
    ∃ ys, putK (ks.zip xs) k v = (putKs k ks).zip ys ∧ (putKs k ks).length = ys.length ∧ RepL g F (putDs k d ks ds) ys := by
  unfold putK putKs putDs
  rw [hasK_zip hl]
  by_cases h : hasK k ks = true
  · rw [if_pos h, if_pos h, if_pos h]
    exact mapDs_ok rv hl r
  · rw [if_neg h, if_neg h, if_neg h]
    refine ⟨xs ++ [v], ?_, by simp [hl], r.append ⟨v, [], rfl, rv, rfl⟩⟩
    rw [List.zip_append hl]
    rfl
end
def setK (j : Nat) (d k : D) (E : Nv) : R Fl := match E[j]? with
  | some s => match s.cell, keyD k with
    | some (.dk ks xs), some c => if ks.length < sizeLine then .val .nx (E.set j (s.put (.dk (putKs c ks) (putDs c d ks xs)))) else .bad
    | _, _ => .bad
  | none => .bad
def fSetK (j : Nat) (fi f : Nv → R D) : Nv → R Fl := fun E => (f E).bind fun d E1 => (fPk j E1).bind fun _ E2 => (fi E2).bind fun k E3 => setK j d k E3
theorem fs_setK {X : Cx} {g : Gm} {W : WX} {st : Stmt} {j : Nat} {fi f : Nv → R D} (h : PS X st (tAsg (tG g W (relD g) f) (gSub (tG g W (relA g) (fPk j)) (tG g W (relD g) fi) rSetD))) : FS X g W st (fSetK j fi f) := psImp h fun D σ H ⟨ρ, G, E, F, st, q⟩ =>
  bindS st q fun d E1 v F1 H1 st1 s1 r1 q1 => by
    refine ⟨ρ, G, E1, F1, st1, ?_⟩
    revert q1
    cases z : fPk j E1 with
    | exc c fs E' => exact fun q1 dx F' H' st' s x => q1 dx σ F' H' st' s x
    | bad => exact fun q1 => q1
    | val a E2 =>
      obtain ⟨rfl, rfl⟩ := fPk_pk z
      intro q1 x F2 H2 st2 s2 hx
      have hx : σ[j]? = some (some x) := hx
      refine bindS st2 (postS.mono s2 q1) fun k E3 iv F3 H3 st3 s3 r3 q3 => ?_
      unfold setK at q3
      cases z : E3[j]? with
      | none => simp only [z] at q3; exact q3.elim
      | some s =>
        simp only [z] at q3
        cases c : s.cell with
        | none => simp only [c] at q3; exact q3.elim
        | some cd =>
          simp only [c] at q3
          cases cd with
          | dk ks ds =>
            cases hc : keyD k with
            | none => simp only [hc] at q3; exact q3.elim
            | some cc =>
              simp only [hc] at q3
              by_cases hl : ks.length < sizeLine
              · rw [if_pos hl] at q3
                obtain ⟨p, y, fp, _, o, hp, xs, e0, lk, rl⟩ := st3.at z c
                subst e0
                rw [hx] at y
                cases y
                have hy := keyD_ok hc r3
                subst hy
                obtain ⟨ys, e1, e2, e3⟩ := putDs_ok (k := cc) (r1.mono (s2.trans s3)) lk rl
                refine ⟨p, _, rfl, .inl ⟨_, cc, hp, rfl, by rw [List.length_zip]; omega, rfl⟩, ?_⟩
                rw [e1]
                exact q3 σ F3 _ (st3.write z c hx ⟨ys, rfl, e2, e3⟩) (Same.refl _)
              · rw [if_neg hl] at q3; exact q3.elim
          | _ => exact q3.elim

/-! ## a written dict's .get(k) -/
def lookT (z : Str) : List (Str × D) → Option D
  | [] => none
  | r :: rs => if r.1 = z then some r.2 else lookT z rs
structure KTab (g : Gm) (w : World) (p : Addr) (tb : List (Str × D)) : Prop where
  dct : ∃ es n, KDict g.K w p es n
  val : ∀ z, (∃ d u v, lookT z tb = some d ∧ PySem.W.nsIn g.K p z = some (some u) ∧ RelV v u ∧ ∀ F, Rep g F d v) ∨ (lookT z tb = none ∧ PySem.W.nsIn g.K p z = some none)
/-- a row: the key, its token, the value, its data -/
abbrev KRow := Str × Tok × Value × D
def mkE (P : Params) (r : KRow) : DictEntry := ⟨PyData.keyHash P r.1, .str r.1 r.2.1, r.2.2.1⟩
theorem keysLit_rows {P : Params} : ∀ rows : List KRow, PySem.W.KeysLit P (rows.map (mkE P))
  | [] => trivial
  | r :: rs => ⟨⟨r.1, r.2.1, rfl, rfl⟩, keysLit_rows rs⟩
theorem find_rows {P : Params} {g : Gm} {z : Str} : ∀ {rows : List KRow}, (∀ r ∈ rows, ∃ v, RelV v r.2.2.1 ∧ ∀ F, Rep g F r.2.2.2 v) →
    (∃ d e v, lookT z (rows.map fun r => (r.1, r.2.2.2)) = some d ∧ (rows.map (mkE P)).find? (·.key.isStr z) = some e ∧ RelV v e.val ∧ ∀ F, Rep g F d v) ∨
    (lookT z (rows.map fun r => (r.1, r.2.2.2)) = none ∧ (rows.map (mkE P)).find? (·.key.isStr z) = none)
  | [], _ => .inr ⟨rfl, rfl⟩
  | r :: rs, h => by
    have hk : (mkE P r).key.isStr z = decide (r.1 = z) := by
      show (r.1 == z) = _
      by_cases e : r.1 = z <;> simp [e]
    rw [List.map_cons, List.map_cons, List.find?_cons]
    unfold lookT
    by_cases e : r.1 = z
    · obtain ⟨v, a, b⟩ := h r List.mem_cons_self
      rw [hk, decide_eq_true e]
      simp only [if_pos e]
      exact .inl ⟨_, _, v, rfl, rfl, a, b⟩
    · rw [hk, decide_eq_false e]
      simp only [if_neg e]
      exact find_rows fun r hr => h r (List.mem_cons_of_mem _ hr)
theorem rows_plain {P : Params} : ∀ rows : List KRow, (rows.map (mkE P)).any (·.refKey) = false
  | [] => rfl
  | r :: rs => by rw [List.map_cons, List.any_cons, rows_plain rs]; rfl
theorem ktab {g : Gm} {w : World} {p : Addr} {n : Nat} (rows : List KRow) (hl : g.K.lookup p = some ⟨.type "dict", none, .dict (rows.map (mkE w.params)).toArray n, #[]⟩) (low : (p == sysModules) = false)
    (h : ∀ r ∈ rows, ∃ v, RelV v r.2.2.1 ∧ ∀ F, Rep g F r.2.2.2 v) : KTab g w p (rows.map fun r => (r.1, r.2.2.2)) := by
  refine ⟨⟨_, n, hl, by simpa using keysLit_rows rows, low⟩, fun z => ?_⟩
  unfold PySem.W.nsIn
  rw [hl]
  simp only [List.toList_toArray]
  rcases find_rows (P := w.params) (z := z) h with ⟨d, e, v, h1, h2, h3, h4⟩ | ⟨h1, h2⟩
  · rw [h2]
    exact .inl ⟨d, _, v, h1, rfl, h3, h4⟩
  · rw [h2, rows_plain]
    exact .inr ⟨h1, rfl⟩
/-- a written tuple -/
theorem rep_ktup {g : Gm} {p : Addr} {od : Option Addr} {its : Array Value} {n : Nat} {sl : Array (Option Value)} {ds : List D} (xs : List V) (hl : g.K.lookup p = some ⟨.type "tuple", od, .seq its n, sl⟩) (hz : its.size ≤ sizeLine)
    (hv : Vals xs its.toList) (h : ∀ F, RepL g F ds xs) : ∀ F, Rep g F (.tup ds) (.ref p) := fun F => ⟨p, xs, rfl, .inr ⟨_, its, n, hl, rfl, rfl, hz, hv⟩, h F⟩
def tKGet (w : World) (g : Gm) (tb : List (Str × D)) (ty : TE) : TE := fun σ H Q => ty σ H fun y H1 => ∃ z, y = .str z ∧ ∀ v, (∀ F, Rep g F ((lookT z tb).getD .non) v) → Q v H1
theorem pe_kget {X : Cx} {g : Gm} {p : Addr} {tb : List (Str × D)} {o e : Expr} {apos cpos : Pos} {ty : TE} (hK : X.K = g.K) (T : KTab g X.w p tb) (ho : PE X o (tC (.ref p))) (he : PE X e ty) (m : M1 X o "get" apos e cpos) :
    PE X (.Call (.Attribute o "get" apos) [e] [] cpos) (tKGet X.w g tb ty) := by
  refine ⟨fun pins s σ H Q I h => ?_⟩
  obtain ⟨es, n, D⟩ := T.dct
  rw [← hK] at D
  refine wpAny_Call_method m.base m.few m.line PySem.F.plainAttrs_dict PySem.F.slot_dict_get PySem.F.type_dict_get (thn (ho.run pins s σ H (fun x H1 => x = .ref p ∧ ty σ H1 fun y H1 => ∃ z, y = .str z ∧ ∀ v, (∀ F, Rep g F ((lookT z tb).getD .non) v) → Q v H1) I ⟨rfl, h⟩) fun u s1 ⟨x, H1, I1, rx, ex, q1⟩ => ?_)
  subst ex
  obtain rfl : u = Value.ref p := rx
  have hm := PySem.W.mapOf_K (prog := X.prog) (w := X.w) I1.kIn D.at_ D.lit
  refine ⟨hm.typeIs, hm.noDict, ?_⟩
  rw [m.trees]
  refine Calls.callWith_builtin rfl (Calls.evalArgs_plain (Calls.spliced_cons (thn (he.run pins s1 σ H1 _ I1 q1) fun iv s2 ⟨y, H2, I2, ry, z, ey, q2⟩ => Calls.spliced_nil ?_)))
  subst ey
  obtain ⟨t, rfl⟩ := (show ∃ t, iv = Value.str z t from ry)
  have hm2 := PySem.W.mapOf_K (prog := X.prog) (w := X.w) I2.kIn D.at_ D.lit
  refine call_meetsIn PySem.F.slot_dict_get hm2.typeIs PySem.F.entry_dict_get (PySem.F.args_dict_get_2 _ _) (meets_dict_get (strKind X.prog X.w) p (strKind_is X.prog X.w z t) D.low) ⟨_, hm2, ?_⟩
  rcases T.val z with ⟨d, u0, v, h1, h2, h3, h4⟩ | ⟨h1, h2⟩
  · rw [PySem.W.find_K D.at_ (by rw [hK]; exact h2)]
    exact ⟨v, H2, I2.tok _, h3, q2 v (by rw [h1]; exact h4)⟩
  · rw [PySem.W.find_K D.at_ (by rw [hK]; exact h2)]
    exact ⟨.non, H2, I2.tok _, rfl, q2 .non (by rw [h1]; exact fun F => rfl)⟩
def fKGet (tb : List (Str × D)) (fk : Nv → R D) : Nv → R D := fun E => (fk E).bind fun k E1 => match k with
  | .str z => .val ((lookT z tb).getD .non) E1
  | _ => .bad
theorem fe_kget {X : Cx} {g : Gm} {W : WX} {e : Expr} {tb : List (Str × D)} {fk : Nv → R D} (h : PE X e (tKGet X.w g tb (tG g W (relD g) fk))) : FE X g W e (fKGet tb fk) := peImp h fun σ H Q ⟨ρ, G, E, F, st, q⟩ =>
  bindE st q fun k E1 v F1 H1 st1 s1 r1 q1 => by
    cases k with
    | str z =>
      obtain rfl : v = .str z := r1
      exact ⟨z, rfl, fun v hv => q1 v F1 H1 st1 (Same.refl _) (hv F1)⟩
    | _ => exact q1.elim
end FL

namespace FL
open PySem PySem.Spec PyProof.Rows L2 RZ

theorem unit1 {n c : Nat} (h : n + 64 < c) : n + 1 < c := by omega

/-! ## a call with a fresh {} as its last argument -/
def tAN (g : Gm) (W : WX) (fs : Nv → R (List Ar)) : TA := fun σ H Q => ∃ ρ G E F, StOk g ρ G E F σ H ∧ match fs E with
  | .val as E' => ∀ vs p F' H', StOk g ρ (upd G p (.dK [])) E' F' σ H' → G p = none → ArsOk g F' σ as vs → Same F F' → Q (vs ++ [.ref p]) H'
  | .exc c fx E' => postX g W ρ G F σ c fx E'
  | .bad => False
section
variable {X : Cx} {g : Gm} {W : WX} {e : Expr} {es : List Expr} {pos : Pos} {ρ : Nat → Addr} {G F H : Hp} {E : Nv} {σ : L2.St}
theorem fa_new {pos : Pos} (hs : starEach (.Dict [] [] pos :: []) X.env = (false, eval (.Dict [] [] pos) X.env) :: starEach [] X.env := by rfl) : PA X [.Dict [] [] pos] (tAN g W (fAs [])) := paImp (pa_cons pe_dnewK pa_nil hs) fun σ H Q ⟨ρ, G, E, F, st, q⟩ => fun p hp =>
  q [] p F _ (st.temp hp (.dK [])) (st.fG hp) rfl (Same.refl _)
theorem fa_consN {f : Nv → R Ar} {fs : List (Nv → R Ar)} (h : FO X g W e f) (k : PA X es (tAN g W (fAs fs))) (hs : starEach (e :: es) X.env = (false, eval e X.env) :: starEach es X.env := by rfl) : PA X (e :: es) (tAN g W (fAs (f :: fs))) :=
  paImp (pa_cons h k hs) fun σ H Q ⟨ρ, G, E, F, st, q⟩ => by
    refine ⟨ρ, G, E, F, st, ?_⟩
    revert q
    unfold fAs
    cases z : f E with
    | bad => exact fun q => q
    | exc c fx E' => exact fun q => q
    | val x E1 =>
      intro q v F1 H1 st1 s1 r1
      refine ⟨ρ, G, E1, F1, st1, ?_⟩
      revert q
      simp only [R.bind_val]
      cases z2 : fAs fs E1 with
      | bad => exact fun q => q
      | exc c fx E' => exact fun q => postX.mono s1 q
      | val xs E2 => exact fun q vs p F' H' st2 gp r2 s2 => q (v :: vs) p F' H' st2 gp ⟨v, vs, rfl, r1.mono s2, r2⟩ (s1.trans s2)
/-- the call -/
def resCD (fn : Fn) (ars : List Ar) (E : Nv) : R D := match resC fn (ars ++ [.pk E.length]) (E ++ [.own (.dk [] [])]) with
  | .val d E2 => .val d (E2.take E.length)
  | .exc c fx E2 => .exc c fx (E2.take E.length)
  | .bad => .bad
def fCallD (fn : Fn) (fs : Nv → R (List Ar)) : Nv → R D := fun E => (fs E).bind fun as E1 => resCD fn as E1
theorem ArsOk.snoc {a : Ar} {v : V} : ∀ {as : List Ar} {vs : List V}, ArsOk g F σ as vs → ArOk g F σ a v → ArsOk g F σ (as ++ [a]) (vs ++ [v])
  | [], _, h, k => by cases (show _ = [] from h); exact ⟨v, [], rfl, k, rfl⟩
  | _ :: _, _, ⟨x, xs, rfl, r, t⟩, k => ⟨x, _, rfl, r, ArsOk.snoc t k⟩
theorem resCD_ok {n : Nat} {fn : Fn} {ars : List Ar} {vs : List V} {p : Addr} {Q : VK} (st : StOk g ρ (upd G p (.dK [])) E F σ H) (gp : G p = none) (ra : ArsOk g F σ ars vs) (hn : vs.length + 1 = n) (q : post g W (relD g) ρ G F σ Q (resCD fn ars E)) :
    spF g n fn (vs ++ [.ref p]) H Q (WE W σ) := by
  have st2 := st.push (d := .dk [] []) gp ⟨[], rfl, rfl, rfl⟩
  have hl : E.length = σ.length := st.len
  have ra2 : ArsOk g F (σ ++ [some (.ref p)]) (ars ++ [.pk E.length]) (vs ++ [.ref p]) := ra.push.snoc (by show (σ ++ [some (V.ref p)])[E.length]? = _; rw [hl]; simp)
  have key : spF g n fn (vs ++ [.ref p]) H Q (WE (fun cls d _ H => W cls d σ H) (σ ++ [some (.ref p)])) := by
    refine resC_ok (W := fun cls d _ H => W cls d σ H) st2 ra2 (by simpa using hn) ?_
    unfold resCD at q
    revert q
    cases resC fn (ars ++ [.pk E.length]) (E ++ [.own (.dk [] [])]) with
    | bad => exact fun q => q
    | exc k f E2 => exact fun q d' F' H' st' s xr => q d' F' H' (st'.popSlot hl) s xr
    | val d E2 => exact fun q v F' H' st' s r => q v F' H' (st'.popSlot hl) s r
  exact key
theorem fe_callD {n : Nat} {fn : Fn} {fs : List (Nv → R Ar)} (h : PE X e (tCallS (spF g n fn) (WE W) (tAN g W (fAs fs)))) (hn : fs.length + 1 = n) : FE X g W e (fCallD fn (fAs fs)) := peImp h fun σ H Q ⟨ρ, G, E, F, st, q⟩ => by
  refine ⟨ρ, G, E, F, st, ?_⟩
  unfold fCallD at q
  revert q
  cases z : fAs fs E with
  | bad => exact fun q => q
  | exc c fx E' => exact fun q => q
  | val as E1 => exact fun q vs p F' H' st' gp r s => resCD_ok st' gp r (by rw [← r.length, fAs_len z, hn]) (post.mono (r := resCD fn as E1) s q)

/-! ## a call that makes a new object, or answers with a value -/
def postM (g : Gm) (W : WX) (ρ : Nat → Addr) (G F : Hp) (σ : L2.St) (Q : VK) : R Sl → Prop
  | .val (.fz d) E' => ∀ v F' H', StOk g ρ G E' F' σ H' → Same F F' → Rep g F' d v → Q v H'
  | .val (.own d) E' => ∀ p o F' H', StOk g ρ (upd G p o) E' F' σ H' → G p = none → OwnO g F' d o → Same F F' → Q (.ref p) H'
  | .val _ _ => False
  | .exc c fs E' => postX g W ρ G F σ c fs E'
  | .bad => False
def tM (g : Gm) (W : WX) (f : Nv → R Sl) : TE := fun σ H Q => ∃ ρ G E F, StOk g ρ G E F σ H ∧ postM g W ρ G F σ Q (f E)
abbrev FM (X : Cx) (g : Gm) (W : WX) (e : Expr) (f : Nv → R Sl) : Prop := PE X e (tM g W f)
theorem postM.mono {F1 : Hp} (s : Same F F1) {Q : VK} : ∀ {r : R Sl}, postM g W ρ G F σ Q r → postM g W ρ G F1 σ Q r
  | .val (.fz _) _, h => fun v F' H' st q r => h v F' H' st (s.trans q) r
  | .val (.own _) _, h => fun p o F' H' st n ow q => h p o F' H' st n ow (s.trans q)
  | .val .no _, h => h
  | .val (.bor _ _) _, h => h
  | .exc _ _ _, h => postX.mono s h
  | .bad, h => h
def fMv (f : Nv → R Sl) : Nv → R D := fun E => (f E).bind fun s E1 => match s with
  | .fz d => .val d E1
  | .own d => .val d E1
  | _ => .bad
theorem fe_m {f : Nv → R Sl} (h : FM X g W e f) : FE X g W e (fMv f) := peImp h fun σ H Q ⟨ρ, G, E, F, st, q⟩ => by
  refine ⟨ρ, G, E, F, st, ?_⟩
  unfold fMv at q
  revert q
  cases f E with
  | bad => exact fun q => q
  | exc c fx E' => exact fun q => q
  | val s E1 =>
    cases s with
    | no => exact fun q => q
    | bor _ _ => exact fun q => q
    | fz d => exact fun q v F' H' st' ss r => q v F' H' st' ss r
    | own d => exact fun q p o F' H' st' gn ow s => q (.ref p) _ H' (st'.freeze gn) (s.trans (Same.new (st'.dj p o upd_same))) (ow.rep (st'.dj p o upd_same))
def fSetM (i : Nat) (f : Nv → R Sl) : Nv → R Fl := fun E => (f E).bind fun s E1 => match s with
  | .fz d => .val .nx (E1.set i (.fz d))
  | .own d => .val .nx (E1.set i (.own d))
  | _ => .bad
theorem fs_setM {i : Nat} {f : Nv → R Sl} {st : Stmt} (h : PS X st (tAsg (tM g W f) (gName i))) : FS X g W st (fSetM i f) := psImp h fun D σ H ⟨ρ, G, E, F, st, q⟩ => by
  refine ⟨ρ, G, E, F, st, ?_⟩
  unfold fSetM at q
  revert q
  cases f E with
  | bad => exact fun q => q
  | exc c fx E' => exact fun q dx F' H' st' s x => q dx σ F' H' st' s x
  | val s E1 =>
    cases s with
    | no => exact fun q => q
    | bor _ _ => exact fun q => q
    | fz d => exact fun q v F' H' st' ss r => q _ F' H' (st'.store r) ss
    | own d => exact fun q p o F' H' st' gn ow s => q _ F' H' (st'.take gn ow) s
def resCM (fn : Fn) (ars : List Ar) (E : Nv) : R Sl := match lend E 0 ars with
  | none => .bad
  | some as => if once ars = true then (match fn as with
    | .val d bs => if shape as bs = true then .val (.fz d) (unlend ars bs E) else .bad
    | .new d bs => if shape as bs = true then .val (.own d) (unlend ars bs E) else .bad
    | .exc c fs bs => if shape as bs = true then .exc c fs (unlend ars bs E) else .bad
    | _ => .bad) else .bad
def fCallM (fn : Fn) (fs : Nv → R (List Ar)) : Nv → R Sl := fun E => (fs E).bind fun as E1 => resCM fn as E1
theorem resCM_ok {n : Nat} {fn : Fn} {ars : List Ar} {vs : List V} {Q : VK} (st : StOk g ρ G E F σ H) (ra : ArsOk g F σ ars vs) (hn : vs.length = n) (q : postM g W ρ G F σ Q (resCM fn ars E)) : spF g n fn vs H Q (WE W σ) := by
  unfold resCM at q
  cases z : lend E 0 ars with
  | none => simp only [z] at q; exact q.elim
  | some as =>
    simp only [z] at q
    by_cases ho : once ars = true
    · rw [if_pos ho] at q
      obtain ⟨ρ', G', st', back, back2⟩ := lent st ra z ho
      refine ⟨hn, ρ', G', as, F, st', ?_⟩
      revert q
      cases fn as with
      | bad => exact fun q => q
      | val d bs =>
        simp only
        by_cases hs : shape as bs = true
        · rw [if_pos hs]; exact fun q v F' H' st2 ss r => q v F' H' (back bs F' H' hs st2 ss) ss r
        · rw [if_neg hs]; exact fun q => q.elim
      | new d bs =>
        simp only
        by_cases hs : shape as bs = true
        · rw [if_pos hs]
          intro q p o F' H' st2 gp ow ss
          obtain ⟨gn, st3⟩ := back2 bs F' H' p o hs st2 gp ss
          exact q p o F' H' st3 gn ow ss
        · rw [if_neg hs]; exact fun q => q.elim
      | exc c fs bs =>
        simp only
        by_cases hs : shape as bs = true
        · rw [if_pos hs]; exact fun q dx F' H' st2 ss r => q dx F' H' (back bs F' H' hs st2 ss) ss r
        · rw [if_neg hs]; exact fun q => q.elim
    · rw [if_neg ho] at q; exact q.elim
theorem fm_call {n : Nat} {fn : Fn} {fs : List (Nv → R Ar)} (h : PE X e (tCallS (spF g n fn) (WE W) (tG g W (relAs g) (fAs fs)))) (hn : fs.length = n) : FM X g W e (fCallM fn (fAs fs)) := peImp h fun σ H Q ⟨ρ, G, E, F, st, q⟩ => by
  refine ⟨ρ, G, E, F, st, ?_⟩
  unfold fCallM at q
  revert q
  cases z : fAs fs E with
  | bad => exact fun q => q
  | exc c fx E' => exact fun q => q
  | val as E1 => exact fun q vs F' H' st' s r => resCM_ok st' r (by rw [← r.length, fAs_len z, hn]) (postM.mono (r := resCM fn as E1) s q)

/-! ## name += e, ints -/
def fAugI (i : Nat) (f : Nv → R D) : Nv → R Fl := fun E => match Ar.get E (.pk i) with
  | none => .bad
  | some _ => (f E).bind fun y E1 => match y, Ar.get E1 (.pk i) with
    | .int b, some (.int a) => .val .nx (E1.set i (.fz (.int (a + b))))
    | _, _ => .bad
theorem slot_at {i : Nat} {d : D} (st : StOk g ρ G E F σ H) (h : Ar.get E (.pk i) = some d) : ∃ x, σ[i]? = some (some x) := by
  unfold Ar.get at h
  cases q : E[i]? with
  | none => simp [q] at h
  | some s =>
    simp only [q] at h
    cases s with
    | no => cases h
    | fz x => obtain ⟨w, a, b⟩ := st.fz i _ q; exact ⟨w, a⟩
    | own x => obtain ⟨p, a, _⟩ := st.at q rfl; exact ⟨_, a⟩
    | bor k x => obtain ⟨p, a, _⟩ := st.at q rfl; exact ⟨_, a⟩
theorem fs_augI {i : Nat} {f : Nv → R D} {st : Stmt} (h : PS X st (tAug i (tG g W (relD g) f) (ipI fun i j => i + j))) : FS X g W st (fAugI i f) := psImp h fun D σ H ⟨ρ, G, E, F, st, q⟩ => by
  unfold fAugI at q
  cases z : Ar.get E (.pk i) with
  | none => simp only [z] at q; exact q.elim
  | some d0 =>
    simp only [z] at q
    obtain ⟨x, hx⟩ := slot_at st z
    refine ⟨x, hx, bindS st q fun y E1 v F1 H1 st1 s1 r1 q1 => ?_⟩
    cases z1 : Ar.get E1 (.pk i) with
    | none => cases y <;> (simp only [z1] at q1; exact q1.elim)
    | some d1 =>
      cases y with
      | int b =>
        cases d1 with
        | int a =>
          simp only [z1] at q1
          obtain rfl : v = .int b := r1
          have hr := ar_ok st1 (a := .pk i) (v := x) hx z1
          rw [hr.int] at hx ⊢
          exact ⟨a, b, rfl, rfl, q1 _ F1 H1 (st1.store (d := .int (a + b)) (v := .int (a + b)) rfl) (Same.refl _)⟩
        | _ => simp only [z1] at q1; exact q1.elim
      | _ => simp only [z1] at q1; exact q1.elim
end

/-! ## text * int, tuple * int -/
def repS (z : Str) (n : Int) : Str := ⟨(List.replicate n.toNat z.cps.toList).flatten.toArray⟩
theorem foldl_repS (a : Array Nat) : ∀ (m : Nat) (acc : Array Nat), (List.replicate m a).foldl (· ++ ·) acc = acc ++ (List.replicate m a.toList).flatten.toArray
  | 0, acc => by simp
  | m + 1, acc => by
    rw [List.replicate_succ, List.foldl_cons, foldl_repS a m, List.replicate_succ, List.flatten_cons]
    apply Array.ext'
    simp
theorem repS_none {z : Str} {n : Int} (h : n < 1) : repS z n = Str.empty := by
  unfold repS
  have : n.toNat = 0 := by omega
  rw [this]; rfl
theorem repS_same {z : Str} {n : Int} (h0 : ¬ n < 1) (h : (n == 1 || z.length == 0) = true) : repS z n = z := by
  obtain ⟨⟨l⟩⟩ := z
  unfold repS
  simp only [Bool.or_eq_true, beq_iff_eq] at h
  rcases h with h | h
  · subst h
    have : (1 : Int).toNat = 1 := rfl
    rw [this]
    simp
  · have hl : l = [] := List.length_eq_zero_iff.mp h
    subst hl
    simp
def rMulS : R2 := fun x y H Q => ∃ z n, x = .str z ∧ y = .int n ∧ -(2 ^ 63 : Int) ≤ n ∧ n < 2 ^ 31 ∧ z.length * n.toNat ≤ sizeLine ∧ Q (.str (repS z n)) H
section
variable {X : Cx} {g : Gm}
theorem op_mulS : OpR X (binaryOp .Mult) rMulS := by
  intro pins s σ H x y v u Q I rx ry h
  obtain ⟨z, n, rfl, rfl, h1, h2, h3, q⟩ := h
  obtain ⟨t, rfl⟩ := rx
  obtain ⟨t', rfl⟩ := ry
  refine PySem.P.mul_str ?_ (fun a b => ?_) (fun a b => ?_) ?_
  · have a : ¬ n < -(2 ^ 63 : Int) := by omega
    have b : ¬ n ≥ 2 ^ 63 := by omega
    rw [decide_eq_false a, decide_eq_false b]; rfl
  · have hz : (z.length : Int) ≤ sizeLine := by
      have : 1 ≤ n.toNat := by omega
      have : z.length * 1 ≤ z.length * n.toNat := Nat.mul_le_mul_left _ this
      omega
    rw [sizeLine_eq] at hz
    intro hgt
    have : (z.length : Int) * n ≤ 2 ^ 63 - 1 := by
      have e : ((z.length * n.toNat : Nat) : Int) = (z.length : Int) * n := by
        rw [Int.natCast_mul]; congr 1; omega
      have h3' : ((z.length * n.toNat : Nat) : Int) ≤ sizeLine := by exact_mod_cast h3
      rw [e, sizeLine_eq] at h3'
      omega
    have := (Int.le_ediv_iff_mul_le (by omega : (0 : Int) < n)).mpr this
    omega
  · unfold Builtin.Str.tooLong
    exact decide_eq_false (by omega)
  · by_cases c : n < 1
    · rw [if_pos c]
      rw [repS_none c] at q
      exact ⟨by decide, .str _, H, I.tok _, ⟨_, rfl⟩, q⟩
    · rw [if_neg c]
      by_cases d : (n == 1 || z.length == 0) = true
      · rw [if_pos d]
        rw [repS_same c d] at q
        exact ⟨.str _, H, I, ⟨_, rfl⟩, q⟩
      · rw [if_neg d]
        have e : (⟨(List.replicate n.toNat z.cps).foldl (· ++ ·) #[]⟩ : Str) = repS z n := by
          unfold repS
          congr 1
          rw [foldl_repS]
          simp
        rw [e]
        refine ⟨?_, .str _, H, I.tok _, ⟨_, rfl⟩, q⟩
        show (repS z n).cps.size ≤ _
        unfold repS
        rw [List.size_toArray, List.length_flatten]
        simp
        rw [Nat.mul_comm]
        exact h3
def rMulAA (K : PySem.W.Frag) : R2 := fun x y H Q => (rMulA x y H Q ∨ rMulS x y H Q) ∨ rRepT K x y H Q
theorem opr_mulA : OpR X (binaryOp .Mult) (rMulAA X.K) := (opr_mul.or op_mulS).or op_repT
open Classical in
noncomputable def oMulA : D → D → Option D
  | .str z, .int n => if -(2 ^ 63 : Int) ≤ n ∧ n < 2 ^ 31 ∧ z.length * n.toNat ≤ sizeLine then some (.str (repS z n)) else none
  | .tup xs, .int k => if xs ≠ [] ∧ 2 ≤ k ∧ k ≤ 1000 ∧ xs.length ≤ 1000 then some (.tup (List.replicate k.toNat xs).flatten) else none
  | d, e => oMul d e
theorem op2_mulA (g : Gm) : Op2 g (rMulAA g.K) oMulA := by
  intro F H v u d e z Q sf rd re ho k
  have rest : oMul d e = some z → rMulAA g.K v u H Q := fun h => .inl (.inl (op2_mul g F H v u d e z Q sf rd re h k))
  cases d <;> cases e <;> try exact rest ho
  · rename_i x n
    unfold oMulA at ho
    obtain ⟨h, rfl⟩ := iteSome ho
    rw [rd.str, re.int]
    exact .inl (.inr ⟨x, n, rfl, rfl, h.1, h.2.1, h.2.2, k _ _ _ .refl rfl⟩)
  · rename_i ds n
    unfold oMulA at ho
    obtain ⟨h, rfl⟩ := iteSome ho
    obtain ⟨p, xs, rfl, hx, rx⟩ := rd.tup sf
    rw [re.int]
    refine .inr ⟨p, n, xs, rfl, rfl, hx, fun e => ?_, h.2.1, h.2.2.1, by rw [← rx.length]; exact h.2.2.2, fun r hr => ?_⟩
    · subst e
      exact h.1 (List.length_eq_zero_iff.mp (by rw [rx.length]; rfl))
    · exact k _ _ _ (.new _ sf hr) ⟨r, _, rfl, .inl (.inl upd_same), (rx.rep n.toNat).mono (Same.new (sf.free hr))⟩
end

/-! ## text[::-1] -/
def revS (z : Str) : Str := ⟨z.cps.toList.reverse.toArray⟩
def tRevS (te : TE) : TE := fun σ H Q => te σ H fun x H1 => ∃ z, x = .str z ∧ z.length ≤ sizeLine ∧ Q (.str (revS z)) H1
section
variable {X : Cx} {g : Gm} {W : WX}
theorem pe_revS {e : Expr} {te : TE} {k : Nat} {p1 p2 p3 pos : Pos} (he : PE X e te) : PE X (.Subscript e (.Slice none none (some (.UnaryOp .USub (.Constant (.int 1) k p1) p2)) p3) pos) (tRevS te) := by
  refine ⟨fun pins s σ H Q I h => ?_⟩
  refine Subscript_ (thn (he.run pins s σ H _ I h) fun v s1 ⟨x, H1, I1, r1, q1⟩ => ?_)
  obtain ⟨z, ex, hz, q⟩ := q1
  subst ex
  obtain ⟨t, rfl⟩ := r1
  have hst : PO X (some (.UnaryOp .USub (.Constant (.int 1) k p1) p2)) (tPart (tUn (rU fun i => .int (-i)) (tC (.int 1)))) := po_some (pe_un un_neg pe_int)
  refine wpAny_Slice (thn (po_none.run pins s1 σ H1 (fun o H2 => o = none ∧ H2 = H1) I1 ⟨rfl, rfl⟩) fun vl s2 ⟨l, H2, I2, pl, el, e2⟩ => ?_)
  subst el e2
  refine thn (po_none.run pins s2 σ H2 (fun o H3 => o = none ∧ H3 = H2) I2 ⟨rfl, rfl⟩) fun vu s3 ⟨u, H3, I3, pu, eu, e3⟩ => ?_
  subst eu e3
  refine thn (hst.run pins s3 σ H3 (fun o H4 => o = some (-1) ∧ H4 = H3) I3 ⟨1, rfl, -1, rfl, rfl, rfl⟩) fun vs s4 ⟨o, H4, I4, ps, eo, e4⟩ => ?_
  subst eo e4
  have I5 : Inv X pins σ H4 { s4 with heap := s4.heap.push { cls := .type "slice", data := .fields #[vl, vu, vs] } } := I4.kept (t' := s4.toks) fun b ob q => Heap.get?_push_of_some _ q
  show wpAny (model X.prog X.w) X.A (subscriptTail e (.Slice none none (some (.UnaryOp .USub (.Constant (.int 1) k p1) p2)) p3) (.str z t) (.ref s4.heap.objs.size)) (EP X pins σ Q) X.xe { s4 with heap := s4.heap.push { cls := .type "slice", data := .fields #[vl, vu, vs] } }
  refine tail_any (ops := [.str z t, .ref s4.heap.objs.size]) (typeIs_str _ _ _) F.slot_str_getitem.lookup ?_ (by with_unfolding_all rfl)
  obtain ⟨l, rfl, el⟩ := IsPart.raw pl
  obtain ⟨u, rfl, eu⟩ := IsPart.raw pu
  obtain ⟨st, rfl, es⟩ := IsPart.raw ps
  cases l with
  | some _ => cases el
  | none =>
  cases u with
  | some _ => cases eu
  | none =>
  cases st with
  | none => cases es
  | some p =>
  obtain ⟨i, tk⟩ := p
  obtain rfl : i = -1 := Option.some.inj es
  refine wpAny_getItem_str_slice (l := none) (u := none) (st := some (-1, tk)) ⟨_, Heap.get?_push_size _ rfl, rfl, rfl⟩ rfl ?_
  have e : (⟨((slicePicked z none none (some (-1, tk))).filterMap (z.cps[·]?)).toArray⟩ : Str) = revS z := by
    unfold revS slicePicked
    congr 2
    show (Builtin.Str.strSliceIndices none none (-1) z.length).filterMap (z.cps[·]?) = _
    rw [picked_rev, PySem.W.krv_range, List.filterMap_reverse]
    congr 1
    exact PySem.W.krv_all z.cps
  show (sliceMade z t none none (some (-1, tk))).post (EP X pins σ Q) _
  unfold sliceMade
  rw [if_neg (by simp)]
  rw [e]
  exact ⟨by show z.cps.toList.reverse.toArray.size ≤ _; rw [List.size_toArray, List.length_reverse, Array.length_toList]; exact hz, .str _, H4, I5.tok _, ⟨_, rfl⟩, q⟩
def fRevS (f : Nv → R D) : Nv → R D := fun E => (f E).bind fun d E1 => match d with
  | .str z => if z.length ≤ sizeLine then .val (.str (revS z)) E1 else .bad
  | _ => .bad
theorem fe_revS {e : Expr} {f : Nv → R D} (h : PE X e (tRevS (tG g W (relD g) f))) : FE X g W e (fRevS f) := peImp h fun σ H Q ⟨ρ, G, E, F, st, q⟩ =>
  bindE st q fun d E1 v F1 H1 st1 s1 r1 q1 => by
    cases d with
    | str z =>
      obtain rfl : v = .str z := r1
      by_cases hl : z.length ≤ sizeLine
      · simp only [if_pos hl] at q1
        exact ⟨z, rfl, hl, q1 _ F1 H1 st1 (Same.refl _) rfl⟩
      · simp only [if_neg hl] at q1; exact q1.elim
    | _ => exact q1.elim
end

/-! ## str(int), truth -/
def oStr : List D → Option D
  | [.int i] => if i.natAbs.log2 < 1920 then some (.str (toString i : String)) else none
  | _ => none
def asT : D → Option Bool
  | .non => some false
  | .bl b => some b
  | .lst xs => some (!xs.isEmpty)
  | .tup xs => some (!xs.isEmpty)
  | _ => none
def fTru (f : Nv → R Ar) : Nv → R Bool := fun E => (f E).bind fun a E1 => R.some ((a.get E1).bind asT) E1
section
variable {X : Cx} {g : Gm} {W : WX}
theorem opL_str (g : Gm) : OpL g (fun xs H Q => ∃ i, xs = [.int i] ∧ i.natAbs.log2 < 1920 ∧ Q (.str (toString i)) H) oStr := by
  intro F H vs ds z Q sf r ho k
  unfold oStr at ho
  split at ho
  · rename_i i
    obtain ⟨h, rfl⟩ := iteSome ho
    obtain ⟨x, xs, rfl, hx, t⟩ := r
    cases (show xs = [] from t)
    rw [hx.int]
    exact ⟨i, rfl, h, k _ _ _ .refl rfl⟩
  · cases ho
theorem ft_tru {e : Expr} {f : Nv → R Ar} (hK : X.K = g.K) (h : PT X e (fun σ H Q => tG g W (relA g) f σ H fun x H' => ∃ k, TruV X.K x H' k ∧ Q k H')) : FT X g W e (fTru f) := ptImp h fun σ H Q ⟨ρ, G, E, F, st, q⟩ =>
  bindE st q fun a E1 v F1 H1 st1 s1 r1 q1 => by
    cases z : a.get E1 with
    | none => simp only [z] at q1; exact q1.elim
    | some d =>
      have rh := ar_ok st1 r1 z
      cases d with
      | non => simp only [z] at q1; rw [rh.non]; exact ⟨false, rfl, q1 false F1 H1 st1 (Same.refl _) rfl⟩
      | bl b => simp only [z] at q1; rw [rh.bl]; exact ⟨b, rfl, q1 b F1 H1 st1 (Same.refl _) rfl⟩
      | lst ds =>
        simp only [z] at q1
        have emp : ∀ {xs : List V}, RepL g F1 ds xs → ds.isEmpty = xs.isEmpty := fun {xs} r => by
          cases ds with
          | nil => cases (show xs = [] from r); rfl
          | cons d ds => obtain ⟨x, xs, rfl, _⟩ := r; rfl
        rcases rh with ⟨p, xs, rfl, hp, r⟩ | ⟨p, o, rfl, hp, xs, rfl, r⟩
        · exact ⟨!ds.isEmpty, .inl ⟨xs, .inl (.inl (st1.sf _ _ hp)), by rw [emp r]⟩, q1 _ F1 H1 st1 (Same.refl _) rfl⟩
        · exact ⟨!ds.isEmpty, .inl ⟨xs, .inl (.inl hp), by rw [emp r]⟩, q1 _ F1 H1 st1 (Same.refl _) rfl⟩
      | tup ds =>
        simp only [z] at q1
        have emp : ∀ {xs : List V}, RepL g F1 ds xs → ds.isEmpty = xs.isEmpty := fun {xs} r => by
          cases ds with
          | nil => cases (show xs = [] from r); rfl
          | cons d ds => obtain ⟨x, xs, rfl, _⟩ := r; rfl
        obtain ⟨p, xs, rfl, hx, rx⟩ := rh.tup st1.sf
        exact ⟨!ds.isEmpty, .inr (.inl ⟨xs, by rw [hK]; exact hx, by rw [emp rx]⟩), q1 _ F1 H1 st1 (Same.refl _) rfl⟩
      | _ => simp only [z, Option.bind_some, asT] at q1; exact q1.elim
end
end FL

namespace FL
open PySem PySem.Spec PyProof.Rows L2

/-! ## running what FL18, FL19 bring -/
def lzip : List D → Option D
  | [.tup ds, .tup es] => if ds.length = es.length then some (.lst (zipD ds es)) else none
  | _ => none
def dicK (Q : Prop) (_ : Tg Q) (o : Option D) : Prop := ∃ d, o = some d ∧ isDic d = true ∧ Q
def getO (o : Option D) (k x : D) : Option D := match o with
  | some d => (dGet d k).map (·.getD x)
  | none => none
def kgK (tb : List (Str × D)) (Q : D → Nv → Prop) (_ : Tg (tb, Q)) (k : D) (E : Nv) : Prop := match k with
  | .str z => Q ((lookT z tb).getD .non) E
  | _ => False
def rK (s : Option Sl) (d k : D) : Option Sl := match s with
  | some s => match s.cell, keyD k with
    | some (.dk ks xs), some c => if ks.length < sizeLine then some (s.put (.dk (putKs c ks) (putDs c d ks xs))) else none
    | _, _ => none
  | none => none
def wpM (r : FR) (Q : Sl → List Sl → Prop) : Prop := match r with
  | .val d bs => Q (.fz d) bs
  | .new d bs => Q (.own d) bs
  | _ => False
def runM (Q : Sl → List Sl → Prop) (_ : Tg Q) (r : FR) : Prop := wpM r Q
def calMM (fn : Fn) (ars : List Ar) (Q : Sl → Nv → Prop) (_ : Tg (fn, ars, Q)) (E : Nv) (as : Option (List Sl)) : Prop := match as with
  | some as => once ars = true ∧ wpM (fn as) fun d bs => shape as bs = true ∧ Q d (unlend ars bs E)
  | none => False
def retM (as : List Sl) (ars : List Ar) (Q : Sl → Nv → Prop) (E : Nv) (_ : Tg (as, ars, Q, E)) (d : Sl) (bs : List Sl) : Prop := shape as bs = true ∧ Q d (unlend ars bs E)
def backM (Q : Sl → Nv → Prop) (_ : Tg Q) (d : Sl) (E : Nv) : Prop := Q d E
def mvK (Q : D → Nv → Prop) (_ : Tg Q) (s : Sl) (E : Nv) : Prop := match s with
  | .fz d => Q d E
  | .own d => Q d E
  | _ => False
def smK (i : Nat) (Q : Fl → Nv → Prop) (_ : Tg Q) (s : Sl) (E : Nv) : Prop := match s with
  | .fz d => Q .nx (E.set i (.fz d))
  | .own d => Q .nx (E.set i (.own d))
  | _ => False
def auK (Q : Prop) (_ : Tg Q) (o : Option D) : Prop := (∃ d, o = some d) ∧ Q
def aI : D → D → Option D
  | .int a, .int b => some (.int (a + b))
  | _, _ => none
def rvK (Q : D → Nv → Prop) (_ : Tg Q) (d : D) (E : Nv) : Prop := match d with
  | .str z => z.length ≤ sizeLine ∧ Q (.str (revS z)) E
  | _ => False
section
variable {E : Nv} {QD : D → Nv → Prop} {QB : Bool → Nv → Prop} {QS : Fl → Nv → Prop} {QM : Sl → Nv → Prop} {f h fk fx : Nv → R D} {fm : Nv → R Sl} {fa : Nv → R Ar} {fl : Nv → R (List Ar)} {i : Nat} {d : D}
theorem x_fLZip {g : Tg QD} : run QD g (fLZip fl E) = run (fun as E1 => run QD () (R.some ((valsOf as).bind lzip) E1)) () (fl E) := by
  unfold run fLZip; rw [wp_bind]; congr; funext as E1
  cases valsOf as with
  | none => rfl
  | some l =>
    simp only [Option.bind_some]
    unfold lzip
    split <;> split <;> first | rfl | simp_all [R.some, wp] | skip
theorem lzip_s {ds es : List D} : lzip [.tup ds, .tup es] = if ds.length = es.length then some (.lst (zipD ds es)) else none := rfl
theorem dicK_dk {Q : Prop} {g : Tg Q} {ks : List Key} {xs : List D} : dicK Q g (some (.dk ks xs)) = Q := by
  unfold dicK; exact propext ⟨fun ⟨_, _, _, q⟩ => q, fun q => ⟨_, rfl, rfl, q⟩⟩
theorem getO_dk {ks : List Key} {xs : List D} {s : Str} {x : D} : getO (some (.dk ks xs)) (.str s) x = some ((findD (.inr s) ks xs).getD x) := rfl
theorem x_fGet2 {g : Tg QD} : run QD g (fGet2 fa fk fx E) = run (fun a E1 => dicK (run (fun k E2 => run (fun x E3 => run QD () (R.some (getO (a.get E3) k x) E3)) () (fx E2)) () (fk E1)) () (a.get E1)) () (fa E) := by
  unfold run fGet2; rw [wp_bind]; congr; funext a E1
  cases a.get E1 with
  | none => simp [dicK, wp]
  | some d0 =>
    simp only
    by_cases c : isDic d0 = true
    · rw [if_pos c]
      have e : ∀ Q : Prop, dicK Q () (some d0) = Q := fun Q => by
        unfold dicK; exact propext ⟨fun ⟨_, _, _, q⟩ => q, fun q => ⟨_, rfl, c, q⟩⟩
      rw [e, wp_bind]; congr; funext k E2
      rw [wp_bind]; congr; funext x E3
      unfold getO
      cases a.get E3 with
      | none => rfl
      | some d =>
        simp only
        cases dGet d k with
        | none => rfl
        | some o => cases o <;> rfl
    · rw [if_neg c]
      unfold dicK
      refine propext ⟨fun q => q.elim, fun ⟨d, h1, h2, _⟩ => ?_⟩
      cases h1
      exact (c h2).elim
theorem x_fKGet {tb : List (Str × D)} {g : Tg QD} : run QD g (fKGet tb fk E) = run (kgK tb QD ()) () (fk E) := by
  unfold run fKGet; rw [wp_bind]; congr; funext k E1
  unfold kgK
  cases k <;> rfl
theorem kgK_s {tb : List (Str × D)} {g : Tg (tb, QD)} {z : Str} : kgK tb QD g (.str z) E = QD ((lookT z tb).getD .non) E := rfl
theorem x_fSetK {g : Tg QS} : run QS g (fSetK i f h E) = run (fun d E1 => run (fun _ E2 => run (fun k E3 => run (fun x E4 => QS .nx (E4.set i x)) () (R.some (rK E3[i]? d k) E3)) () (f E2)) () (fPk i E1)) () (h E) := by
  unfold run fSetK; rw [wp_bind]; congr; funext d E1; rw [wp_bind]; congr; funext a E2; rw [wp_bind]; congr; funext k E3
  unfold setK rK
  cases E3[i]? with
  | none => rfl
  | some s =>
    simp only
    cases s.cell with
    | none => rfl
    | some c =>
      cases c <;> (cases keyD k <;> try rfl)
      simp only
      split <;> rfl
theorem rK_own {ks : List Key} {xs : List D} {d : D} {s : Str} : rK (some (.own (.dk ks xs))) d (.str s) = if ks.length < sizeLine then some (.own (.dk (putKs (.inr s) ks) (putDs (.inr s) d ks xs))) else none := rfl
theorem rK_bor {m : Nat} {ks : List Key} {xs : List D} {d : D} {s : Str} : rK (some (.bor m (.dk ks xs))) d (.str s) = if ks.length < sizeLine then some (.bor m (.dk (putKs (.inr s) ks) (putDs (.inr s) d ks xs))) else none := rfl
theorem x_fCallD {fn : Fn} {g : Tg QD} : run QD g (fCallD fn fl E) = run (fun as E1 => calK fn (as ++ [.pk E1.length]) (fun d E2 => QD d (E2.take E1.length)) () (E1 ++ [.own (.dk [] [])]) (lend (E1 ++ [.own (.dk [] [])]) 0 (as ++ [.pk E1.length]))) () (fl E) := by
  unfold run fCallD; rw [wp_bind]; congr; funext as E1
  have e : wp (resCD fn as E1) QD = wp (resC fn (as ++ [.pk E1.length]) (E1 ++ [.own (.dk [] [])])) fun d E2 => QD d (E2.take E1.length) := by
    unfold resCD
    cases resC fn (as ++ [.pk E1.length]) (E1 ++ [.own (.dk [] [])]) <;> rfl
  rw [e]
  unfold calK
  cases z : lend (E1 ++ [.own (.dk [] [])]) 0 (as ++ [.pk E1.length]) with
  | none => simp [resC, z, wp]
  | some xs =>
    by_cases ho : once (as ++ [.pk E1.length]) = true
    · rw [wp_resC z ho]; simp [ho]
    · simp [resC, z, ho, wp]
theorem x_fCallM {fn : Fn} {g : Tg QM} : run QM g (fCallM fn fl E) = run (fun as E1 => calMM fn as QM () E1 (lend E1 0 as)) () (fl E) := by
  unfold run fCallM; rw [wp_bind]; congr; funext as E1
  unfold resCM calMM
  cases z : lend E1 0 as with
  | none => rfl
  | some xs =>
    simp only
    by_cases ho : once as = true
    · simp only [ho, if_true, true_and]
      cases fn xs with
      | val d bs => unfold wpM; by_cases hs : shape xs bs = true <;> simp [hs, wp]
      | new d bs => unfold wpM; by_cases hs : shape xs bs = true <;> simp [hs, wp]
      | exc c fs bs => unfold wpM; by_cases hs : shape xs bs = true <;> simp [hs, wp]
      | bad => rfl
    · simp [ho, wp]
theorem calMM_s {fn : Fn} {ars : List Ar} {as : List Sl} {g : Tg (fn, ars, QM)} (ho : once ars = true) : calMM fn ars QM g E (some as) = runM (retM as ars QM E ()) () (fn as) := by
  unfold calMM runM retM; simp [ho]
theorem retM_s {as bs : List Sl} {ars : List Ar} {s : Sl} {g : Tg (as, ars, QM, E)} (hs : shape as bs = true) : retM as ars QM E g s bs = backM QM () s (unlend ars bs E) := by unfold retM backM; simp [hs]
theorem x_backM {s : Sl} {g : Tg QM} : backM QM g s E = QM s E := rfl
theorem runM_val {bs : List Sl} {Q : Sl → List Sl → Prop} {g : Tg Q} : runM Q g (.val d bs) = Q (.fz d) bs := rfl
theorem runM_new {bs : List Sl} {Q : Sl → List Sl → Prop} {g : Tg Q} : runM Q g (.new d bs) = Q (.own d) bs := rfl
theorem x_fMv {g : Tg QD} : run QD g (fMv fm E) = run (mvK QD ()) () (fm E) := by
  unfold run fMv; rw [wp_bind]; congr; funext s E1; unfold mvK; cases s <;> rfl
theorem mvK_fz {g : Tg QD} : mvK QD g (.fz d) E = QD d E := rfl
theorem mvK_own {g : Tg QD} : mvK QD g (.own d) E = QD d E := rfl
theorem x_fSetM {g : Tg QS} : run QS g (fSetM i fm E) = run (smK i QS ()) () (fm E) := by
  unfold run fSetM; rw [wp_bind]; congr; funext s E1; unfold smK; cases s <;> rfl
theorem smK_fz {g : Tg QS} : smK i QS g (.fz d) E = QS .nx (E.set i (.fz d)) := rfl
theorem smK_own {g : Tg QS} : smK i QS g (.own d) E = QS .nx (E.set i (.own d)) := rfl
theorem auK_s {Q : Prop} {g : Tg Q} : auK Q g (some d) = Q := by unfold auK; exact propext ⟨fun q => q.2, fun q => ⟨⟨_, rfl⟩, q⟩⟩
theorem x_fAugI {g : Tg QS} : run QS g (fAugI i f E) = auK (run (fun y E1 => run (fun z E2 => QS .nx (E2.set i (.fz z))) () (R.some (r2 aI (slC E1[i]?) (some y)) E1)) () (f E)) () (slC E[i]?) := by
  unfold run fAugI
  rw [get_pk]
  cases slC E[i]? with
  | none => simp [auK, wp]
  | some d0 =>
    simp only
    rw [auK_s, wp_bind]; congr; funext y E1
    rw [get_pk]
    cases slC E1[i]? with
    | none => cases y <;> rfl
    | some a => cases y <;> cases a <;> rfl
theorem aI_s {a b : Int} : aI (.int a) (.int b) = some (.int (a + b)) := rfl
theorem mulA_ii {a b : Int} : oMulA (.int a) (.int b) = oMul (.int a) (.int b) := rfl
theorem mulA_si {z : Str} {n : Int} : ∃ ic, oMulA (.str z) (.int n) = @ite _ (-(2 ^ 63 : Int) ≤ n ∧ n < 2 ^ 31 ∧ z.length * n.toNat ≤ sizeLine) ic (some (.str (repS z n))) none := ⟨_, rfl⟩
theorem mulA_s {z : Str} {n : Int} (h1 : -(2 ^ 63 : Int) ≤ n) (h2 : n < 2 ^ 31) (h3 : z.length * n.toNat ≤ sizeLine) : oMulA (.str z) (.int n) = some (.str (repS z n)) := by
  unfold oMulA; exact if_pos ⟨h1, h2, h3⟩
theorem mulA_t {xs : List D} {k : Int} (h0 : xs ≠ []) (h1 : 2 ≤ k) (h2 : k ≤ 1000) (h3 : xs.length ≤ 1000) : oMulA (.tup xs) (.int k) = some (.tup (List.replicate k.toNat xs).flatten) := by
  unfold oMulA; exact if_pos ⟨h0, h1, h2, h3⟩
theorem x_fRevS {g : Tg QD} : run QD g (fRevS f E) = run (rvK QD ()) () (f E) := by
  unfold run fRevS; rw [wp_bind]; congr; funext d E1; unfold rvK
  cases d <;> try rfl
  rename_i z
  by_cases c : z.length ≤ sizeLine <;> simp [c, wp]
theorem rvK_s {z : Str} {g : Tg QD} : rvK QD g (.str z) E = (z.length ≤ sizeLine ∧ QD (.str (revS z)) E) := rfl
theorem oStr_s {i : Int} : oStr [.int i] = if i.natAbs.log2 < 1920 then some (.str (toString i : String)) else none := rfl
theorem x_fTru {g : Tg QB} : run QB g (fTru fa E) = run (fun a E1 => run QB () (R.some ((a.get E1).bind asT) E1)) () (fa E) := by
  unfold run fTru; rw [wp_bind]
theorem asT_non : asT .non = some false := rfl
theorem asT_lst {xs : List D} : asT (.lst xs) = some (!xs.isEmpty) := rfl
theorem asT_tup {xs : List D} : asT (.tup xs) = some (!xs.isEmpty) := rfl
theorem asT_bl {b : Bool} : asT (.bl b) = some b := rfl
end
end FL

namespace Law
open PySem PySem.Spec PyProof.Rows L2 FL
def topS (i : Nat) : Stmt := PySem.Challenge.pw_turnedtalk_k04_whole_programs_by_an_own.main.body.getD i (.Pass ⟨0, 0, 0, 0⟩)
def tb_STATEMENTS : List (Str × D) := [("say", .tup [.str "e"]), ("let", .tup [.str "name", .str "e"]), ("if", .tup [.str "c", .str "body", .str "body"]), ("each", .tup [.str "name", .str "body"])]
def tb_EXPRESSIONS : List (Str × D) := [("text", .tup [.str "word"]), ("name", .tup [.str "name"]), ("join", .tup [.str "e", .str "e"]), ("turn", .tup [.str "e"]), ("rest", .tup [.str "e"]), ("first", .tup [.str "e"]), ("many", .tup []), ("last", .tup [])]
def tb_CONDITIONS : List (Str × D) := [("same", .tup [.str "e", .str "e"]), ("ahead", .tup [.str "e", .str "e"]), ("in", .tup [.str "e", .str "e"]), ("not", .tup [.str "c"])]

abbrev s_is_sized : Stmt := topS 3
abbrev N_is_sized : List Str := ["thing", "low", "high"]
noncomputable def body_is_sized : Nv → R Fl := fRet (fAnd (fOpL (oIsi 1) (fAs [fPk 0, fV (fC (.ty "tuple"))])) (fChain oLe oLe (fPk 1) (fV (fOpL oLen (fAs [fPk 0]))) (fPk 2)))
noncomputable def sem_is_sized : Fn := runF 3 body_is_sized
abbrev s_are_signs : Stmt := topS 4
abbrev N_are_signs : List Str := ["thing", "sign"]
noncomputable def body_are_signs : Nv → R Fl := fRet (fAnd (fOpL (oIsi 1) (fAs [fPk 0, fV (fC (.ty "str"))])) (fOpL oAll (fAs [fV (fLc (iAnyF (fVar 0)) (bName 1) (tYesF) (fChain oLe oLe (fV (fC (.str " "))) (fPk 1) (fV (fC (.str "~")))) [1])])))
noncomputable def sem_are_signs : Fn := runF 2 body_are_signs
abbrev s_BadHouse___init__ : Stmt := inClass (topS 9) 0
abbrev N_BadHouse___init__ : List Str := ["self", "row"]
abbrev s_is_name : Stmt := topS 28
abbrev N_is_name : List Str := ["thing", "sign"]
noncomputable def body_is_name : Nv → R Fl := fSeq (fIf (tOrF (tNotF (fTest (fOpL (oIsi 1) (fAs [fPk 0, fV (fC (.ty "str"))])))) (tOrF (tNotF (fTest (fChain oLe oLe (fV (fC (.int 1))) (fV (fOpL oLen (fAs [fPk 0]))) (fV (fC (.int 8)))))) (fTest (fOp2 oIn (fPk 0) (fV (fC (.tup [.str "many", .str "last"]))))))) (fRet (fC (.bl false))) (fNx)) (fRet (fOpL oAll (fAs [fV (fLc (iAnyF (fVar 0)) (bName 1) (tYesF) (fOp2 oIn (fPk 1) (fV (fC (.str "abcdefghijklmnopqrstuvwxyz")))) [1])])))
noncomputable def sem_is_name : Fn := runF 2 body_is_name
abbrev s_sorts_of : Stmt := topS 29
abbrev N_sorts_of : List Str := ["sort", "word"]
noncomputable def body_sorts_of : Nv → R Fl := fSeq (fIf (fTest (fOp2 oEq (fPk 0) (fV (fC (.str "statement"))))) (fRet (fKGet tb_STATEMENTS (fVar 1))) (fNx)) (fRet (fIf (fTest (fOp2 oEq (fPk 0) (fV (fC (.str "e"))))) (fKGet tb_EXPRESSIONS (fVar 1)) (fKGet tb_CONDITIONS (fVar 1))))
noncomputable def sem_sorts_of : Fn := runF 2 body_sorts_of
abbrev s_within : Stmt := topS 32
abbrev N_within : List Str := ["body", "deep", "eaches", "one"]
noncomputable def body_within : Nv → R Fl := fSeq (fIf (tNotF (fTest (fOpL (oIsi 1) (fAs [fPk 0, fV (fC (.ty "tuple"))])))) (fRet (fC .non)) (fNx)) (fRetN (fLc (iAnyF (fVar 0)) (bName 3) (tYesF) (fOpV oTupD (fAs [fV (fC (.str "statement")), fV (fVar 3), fV (fVar 1), fV (fVar 2)])) [3]))
noncomputable def sem_within : Fn := runF 4 body_within
abbrev s_told : Stmt := topS 35
abbrev N_told : List Str := ["expression", "row", "meanings", "word", "signs"]
noncomputable def body_told (self : Fn) : Nv → R Fl := fSeq (fSet 3 (fOp2 oIx (fPk 0) (fV (fC (.int 0))))) (fSeq (fIf (fTest (fOp2 oEq (fPk 3) (fV (fC (.str "text"))))) (fRet (fOp2 oIx (fPk 0) (fV (fC (.int 1))))) (fNx)) (fSeq (fIf (fTest (fOp2 oEq (fPk 3) (fV (fC (.str "name"))))) (fRet (fGet2 (fPk 2) (fOp2 oIx (fPk 0) (fV (fC (.int 1)))) (fC (.str "")))) (fNx)) (fSeq (fIf (fTest (fOp2 oEq (fPk 3) (fV (fC (.str "many"))))) (fRet (fOpL oStr (fAs [fV (fOpL oLen (fAs [fPk 1]))]))) (fNx)) (fSeq (fIf (fTest (fOp2 oEq (fPk 3) (fV (fC (.str "last"))))) (fRet (fIf (fTest (fOp2 oGt (fV (fOpL oLen (fAs [fPk 1]))) (fV (fC (.int 0))))) (fOp2 oIx (fPk 1) (fV (fNeg (fC (.int 1))))) (fC (.str "")))) (fNx)) (fSeq (fSet 4 (fCall self (fAs [fV (fOp2 oIx (fPk 0) (fV (fC (.int 1)))), fV (fVar 1), fPk 2]))) (fSeq (fIf (fTest (fOp2 oEq (fPk 3) (fV (fC (.str "join"))))) (fRet (fSl (fV (fOp2 oAdd (fPk 4) (fV (fCall self (fAs [fV (fOp2 oIx (fPk 0) (fV (fC (.int 2)))), fV (fVar 1), fPk 2]))))) (pNone) (pSome (fC (.int 40))))) (fNx)) (fSeq (fIf (fTest (fOp2 oEq (fPk 3) (fV (fC (.str "turn"))))) (fRet (fRevS (fVar 4))) (fNx)) (fRet (fIf (fTest (fOp2 oEq (fPk 3) (fV (fC (.str "rest"))))) (fSl (fPk 4) (pSome (fC (.int 1))) (pNone)) (fSl (fPk 4) (pNone) (pSome (fC (.int 1)))))))))))))
noncomputable def sem_told : Nat → Fn
  | 0 => fn0
  | n + 1 => runF 5 (body_told (sem_told n))
abbrev s_Program___eq__ : Stmt := inClass (topS 39) 1
abbrev N_Program___eq__ : List Str := ["self", "thing"]
noncomputable def body_Program___eq__ : Nv → R Fl := fRet (fAnd (fOpL (oIsi 1) (fAs [fPk 1, fV (fC (.cls 0))])) (fOp2 oEq (fV (fFld "statements" (fPk 0))) (fV (fFld "statements" (fPk 1)))))
noncomputable def sem_Program___eq__ : Fn := runF 2 body_Program___eq__
abbrev s__law_hand : Stmt := topS 43
abbrev N__law_hand : List Str := ["script", "cell"]
noncomputable def body__law_hand : Nv → R Fl := fRetN (fOpV oLstD (fAs [fV (fLc (iAnyF (fSl (fPk 0) (pNone) (pSome (fC (.int 63))))) (bName 1) (tYesF) (fOpL oInt (fAs [fPk 1])) [1]), fV (fC (.int 0)), fV (fC (.int 0)), fV (fC (.int 1187)), fV (fC (.int 0))]))
noncomputable def sem__law_hand : Fn := runF 2 body__law_hand
abbrev s__law_draw : Stmt := topS 44
abbrev N__law_draw : List Str := ["hand", "many", "number", "cell", "digit"]
noncomputable def body__law_draw : Nv → R Fl := fSeq (fIf (tAndF (fTest (fOp2 oEq (fV (fOp2 oIx (fPk 0) (fV (fC (.int 2))))) (fV (fC (.int 0))))) (fTest (fOp2 oLt (fV (fOp2 oIx (fPk 0) (fV (fC (.int 1))))) (fV (fOpL oLen (fAs [fV (fOp2 oIx (fPk 0) (fV (fC (.int 0))))])))))) (fSeq (fSet 3 (fOp2 oIx (fV (fOp2 oIx (fPk 0) (fV (fC (.int 0))))) (fV (fOp2 oIx (fPk 0) (fV (fC (.int 1))))))) (fSeq (fSetIx 0 (fC (.int 1)) (fOp2 oAdd (fV (fOp2 oIx (fPk 0) (fV (fC (.int 1))))) (fV (fC (.int 1))))) (fSeq (fSetIx 0 (fC (.int 3)) (fOp2 oMod (fV (fOpL oInt (fAs [fV (fOp2 oAdd (fV (fOp2 oAdd (fV (fOp2 oMul (fV (fOp2 oIx (fPk 0) (fV (fC (.int 3))))) (fV (fC (.int 69653))))) (fV (fOp2 oMul (fPk 3) (fV (fC (.int 32))))))) (fV (fC (.int 19))))]))) (fV (fC (.int 2147483629))))) (fIf (fTest (fOp2 oGe (fPk 3) (fV (fOp2 oPow (fV (fC (.int 10))) (fV (fC (.int 18))))))) (fSetIx 0 (fC (.int 2)) (fVar 3)) (fNx))))) (fNx)) (fSeq (fIf (fTest (fOp2 oGt (fV (fOp2 oIx (fPk 0) (fV (fC (.int 2))))) (fV (fC (.int 0))))) (fSeq (fSet 4 (fOp2 oMod (fV (fOpL oInt (fAs [fV (fOp2 oIx (fPk 0) (fV (fC (.int 2))))]))) (fPk 1))) (fSeq (fSetIx 0 (fC (.int 2)) (fOp2 oDiv (fV (fOp2 oIx (fPk 0) (fV (fC (.int 2))))) (fPk 1))) (fRet (fVar 4)))) (fNx)) (fSeq (fSetIx 0 (fC (.int 4)) (fOp2 oAdd (fV (fOp2 oIx (fPk 0) (fV (fC (.int 4))))) (fV (fC (.int 1))))) (fSeq (fSet 2 (fOp2 oMod (fV (fOpL oInt (fAs [fV (fOp2 oMul (fV (fOp2 oAdd (fV (fOp2 oIx (fPk 0) (fV (fC (.int 3))))) (fV (fOp2 oMul (fV (fC (.int 6271))) (fV (fOp2 oIx (fPk 0) (fV (fC (.int 4))))))))) (fV (fC (.int 48673))))]))) (fV (fC (.int 2147483647))))) (fSeq (fSet 2 (fOp2 oMod (fV (fOpL oInt (fAs [fV (fOp2 oMul (fPk 2) (fV (fOp2 oAdd (fV (fOp2 oDiv (fPk 2) (fV (fC (.int 1013))))) (fV (fC (.int 69997))))))]))) (fV (fC (.int 2147483647))))) (fSeq (fSet 2 (fOp2 oMod (fV (fOpL oInt (fAs [fV (fOp2 oMul (fPk 2) (fV (fOp2 oAdd (fV (fOp2 oDiv (fPk 2) (fV (fC (.int 2011))))) (fV (fC (.int 40709))))))]))) (fV (fC (.int 2147483399))))) (fRet (fOp2 oMod (fV (fOpL oInt (fAs [fV (fOp2 oDiv (fPk 2) (fV (fC (.int 32))))]))) (fPk 1))))))))
noncomputable def sem__law_draw : Fn := runF 5 body__law_draw
abbrev s__law_is : Stmt := topS 46
abbrev N__law_is : List Str := ["told_v", "due", "one", "two"]
noncomputable def body__law_is (self : Fn) : Nv → R Fl := fSeq (fIf (fTest (fIsiT (fPk 1) (fAs [fV (fC (.ty "tuple")), fV (fC (.ty "list"))]))) (fSeq (fIf (tOrF (fTest (fOp2 oNe (fV (fOpL (oIsi 1) (fAs [fPk 0, fV (fC (.ty "tuple"))]))) (fV (fOpL (oIsi 1) (fAs [fPk 1, fV (fC (.ty "tuple"))]))))) (tNotF (fTest (fIsiT (fPk 0) (fAs [fV (fC (.ty "tuple")), fV (fC (.ty "list"))]))))) (fRet (fC (.bl false))) (fNx)) (fRet (fAnd (fOp2 oEq (fV (fOpL oLen (fAs [fPk 0]))) (fV (fOpL oLen (fAs [fPk 1])))) (fOpL oAll (fAs [fV (fLc (iZip (fAs [fV (fVar 0), fV (fVar 1)])) (bTup [bName 2, bName 3]) (tYesF) (fCall self (fAs [fV (fVar 2), fV (fVar 3)])) [2, 3])]))))) (fNx)) (fRet (fAnd (fOp2 oEq (fV (fOpL (oIsi 1) (fAs [fPk 0, fV (fC (.ty "bool"))]))) (fV (fOpL (oIsi 1) (fAs [fPk 1, fV (fC (.ty "bool"))])))) (fOp2 oEq (fPk 0) (fPk 1))))
noncomputable def sem__law_is : Nat → Fn
  | 0 => fn0
  | n + 1 => runF 4 (body__law_is (sem__law_is n))
abbrev s__law_signs : Stmt := topS 47
abbrev N__law_signs : List Str := ["first"]
noncomputable def body__law_signs : Nv → R Fl := fSeq (fSet 0 (fC (.str " !\"#$&'()*+,-./0123456789:;<=>?@ABCDEFGHIJKLMNOPQRSTUVWXYZ[\\]^_`"))) (fRet (fOp2 oAdd (fPk 0) (fV (fC (.str "abcdefghijklmnopqrstuvwxyz{|}~")))))
noncomputable def sem__law_signs : Fn := runF 1 body__law_signs
abbrev s__law_value : Stmt := topS 55
abbrev N__law_value : List Str := ["e", "row", "names", "word", "k"]
noncomputable def body__law_value (self : Fn) : Nv → R Fl := fSeq (fIf (fTest (fOp2 oEq (fV (fOp2 oIx (fPk 0) (fV (fC (.int 0))))) (fV (fC (.str "text"))))) (fRet (fOp2 oIx (fPk 0) (fV (fC (.int 1))))) (fNx)) (fSeq (fIf (fTest (fOp2 oEq (fV (fOp2 oIx (fPk 0) (fV (fC (.int 0))))) (fV (fC (.str "name"))))) (fRet (fGet2 (fPk 2) (fOp2 oIx (fPk 0) (fV (fC (.int 1)))) (fC (.str "")))) (fNx)) (fSeq (fIf (fTest (fOp2 oEq (fV (fOp2 oIx (fPk 0) (fV (fC (.int 0))))) (fV (fC (.str "many"))))) (fRet (fOpL oStr (fAs [fV (fOpL oLen (fAs [fPk 1]))]))) (fNx)) (fSeq (fIf (fTest (fOp2 oEq (fV (fOp2 oIx (fPk 0) (fV (fC (.int 0))))) (fV (fC (.str "last"))))) (fRet (fIf (fTest (fOp2 oGt (fV (fOpL oLen (fAs [fPk 1]))) (fV (fC (.int 0))))) (fOp2 oIx (fPk 1) (fV (fNeg (fC (.int 1))))) (fC (.str "")))) (fNx)) (fSeq (fSet 3 (fCall self (fAs [fV (fOp2 oIx (fPk 0) (fV (fC (.int 1)))), fV (fVar 1), fPk 2]))) (fSeq (fIf (fTest (fOp2 oEq (fV (fOp2 oIx (fPk 0) (fV (fC (.int 0))))) (fV (fC (.str "join"))))) (fRet (fSl (fV (fOp2 oAdd (fPk 3) (fV (fCall self (fAs [fV (fOp2 oIx (fPk 0) (fV (fC (.int 2)))), fV (fVar 1), fPk 2]))))) (pNone) (pSome (fC (.int 40))))) (fNx)) (fSeq (fIf (fTest (fOp2 oEq (fV (fOp2 oIx (fPk 0) (fV (fC (.int 0))))) (fV (fC (.str "turn"))))) (fRet (fJoin (fV (fC (.str ""))) (fV (fLc (iRng (fAs [fV (fOpL oLen (fAs [fPk 3]))])) (bName 4) (tYesF) (fOp2 oIx (fPk 3) (fV (fOp2 oSub (fV (fOp2 oSub (fV (fOpL oLen (fAs [fPk 3]))) (fV (fC (.int 1))))) (fPk 4)))) [4])))) (fNx)) (fSeq (fIf (fTest (fOp2 oEq (fV (fOp2 oIx (fPk 0) (fV (fC (.int 0))))) (fV (fC (.str "rest"))))) (fRet (fSl (fPk 3) (pSome (fC (.int 1))) (pNone))) (fNx)) (fRet (fSl (fPk 3) (pNone) (pSome (fC (.int 1))))))))))))
noncomputable def sem__law_value : Nat → Fn
  | 0 => fn0
  | n + 1 => runF 5 (body__law_value (sem__law_value n))
abbrev s_is_word : Stmt := topS 5
abbrev N_is_word : List Str := ["thing"]
noncomputable def body_is_word : Nv → R Fl := fRet (fAnd (fCall sem_are_signs (fAs [fV (fVar 0)])) (fOp2 oLe (fV (fOpL oLen (fAs [fPk 0]))) (fV (fC (.int 40)))))
noncomputable def sem_is_word : Fn := runF 1 body_is_word
abbrev s_parts_of : Stmt := topS 30
abbrev N_parts_of : List Str := ["sort", "thing", "sorts"]
noncomputable def body_parts_of : Nv → R Fl := fSeq (fIf (tOrF (tNotF (fTest (fOpL (oIsi 1) (fAs [fPk 1, fV (fC (.ty "tuple"))])))) (tOrF (fTest (fOp2 oEq (fV (fOpL oLen (fAs [fPk 1]))) (fV (fC (.int 0))))) (tNotF (fTest (fOpL (oIsi 1) (fAs [fV (fOp2 oIx (fPk 1) (fV (fC (.int 0)))), fV (fC (.ty "str"))])))))) (fRet (fC .non)) (fNx)) (fSeq (fSet 2 (fCall sem_sorts_of (fAs [fV (fVar 0), fV (fOp2 oIx (fPk 1) (fV (fC (.int 0))))]))) (fSeq (fIf (tOrF (fTest (fOp2 oIsN (fPk 2) (fV (fC .non)))) (fTest (fOp2 oNe (fV (fOpL oLen (fAs [fPk 1]))) (fV (fOp2 oAdd (fV (fOpL oLen (fAs [fPk 2]))) (fV (fC (.int 1)))))))) (fRet (fC .non)) (fNx)) (fRet (fLZip (fAs [fV (fVar 2), fV (fSl (fPk 1) (pSome (fC (.int 1))) (pNone))])))))
noncomputable def sem_parts_of : Fn := runF 3 body_parts_of
abbrev s__law_pick : Stmt := topS 45
abbrev N__law_pick : List Str := ["hand", "things"]
noncomputable def body__law_pick : Nv → R Fl := fRet (fOp2 oIx (fPk 1) (fV (fCall sem__law_draw (fAs [fPk 0, fV (fOpL oLen (fAs [fPk 1]))]))))
noncomputable def sem__law_pick : Fn := runF 2 body__law_pick
abbrev s_is_row : Stmt := topS 6
abbrev N_is_row : List Str := ["thing", "one"]
noncomputable def body_is_row : Nv → R Fl := fRet (fAnd (fCall sem_is_sized (fAs [fV (fVar 0), fV (fC (.int 0)), fV (fC (.int 400))])) (fOpL oAll (fAs [fV (fLc (iAnyF (fVar 0)) (bName 1) (tYesF) (fCall sem_is_word (fAs [fV (fVar 1)])) [1])])))
noncomputable def sem_is_row : Fn := runF 2 body_is_row
abbrev s_is_leaf_right : Stmt := topS 31
abbrev N_is_leaf_right : List Str := ["sort", "thing"]
noncomputable def body_is_leaf_right : Nv → R Fl := fRet (fIf (fTest (fOp2 oEq (fPk 0) (fV (fC (.str "name"))))) (fCall sem_is_name (fAs [fV (fVar 1)])) (fCall sem_is_word (fAs [fV (fVar 1)])))
noncomputable def sem_is_leaf_right : Fn := runF 2 body_is_leaf_right
abbrev s_within_part : Stmt := topS 33
abbrev N_within_part : List Str := ["sort", "thing", "deep", "eaches", "parts", "inside", "kind", "part"]
noncomputable def body_within_part : Nv → R Fl := fSeq (fSet 4 (fCall sem_parts_of (fAs [fV (fVar 0), fV (fVar 1)]))) (fSeq (fIf (tOrF (fTest (fOp2 oGt (fPk 2) (fV (fC (.int 20))))) (fTest (fOp2 oIsN (fPk 4) (fV (fC .non))))) (fRet (fC .non)) (fNx)) (fSeq (fSet 5 (fOp2 oAdd (fPk 3) (fV (fOpL oInt (fAs [fV (fAnd (fOp2 oEq (fPk 0) (fV (fC (.str "statement")))) (fOp2 oEq (fV (fOp2 oIx (fPk 1) (fV (fC (.int 0))))) (fV (fC (.str "each")))))]))))) (fSeq (fIf (fTest (fOp2 oGt (fPk 5) (fV (fC (.int 2))))) (fRet (fC .non)) (fNx)) (fRet (fLc (iAnyF (fVar 4)) (bTup [bName 6, bName 7]) (tYesF) (fOpV oTupD (fAs [fV (fVar 6), fV (fVar 7), fV (fOp2 oAdd (fPk 2) (fV (fC (.int 1)))), fV (fVar 5)])) [6, 7])))))
noncomputable def sem_within_part : Fn := runF 8 body_within_part
abbrev s__law_word : Stmt := topS 48
abbrev N__law_word : List Str := ["hand", "kind", "signs", "k"]
noncomputable def body__law_word : Nv → R Fl := fSeq (fSet 1 (fCall sem__law_draw (fAs [fPk 0, fV (fC (.int 8))]))) (fSeq (fIf (fTest (fOp2 oLt (fPk 1) (fV (fC (.int 4))))) (fRet (fOp2 oIx (fV (fOpV oLstD (fAs [fV (fC (.str "")), fV (fC (.str "a")), fV (fC (.str "b")), fV (fC (.str "ab"))]))) (fPk 1))) (fNx)) (fSeq (fSet 2 (fCall sem__law_signs (fAs []))) (fSeq (fIf (fTest (fOp2 oLt (fPk 1) (fV (fC (.int 7))))) (fRet (fJoin (fV (fC (.str ""))) (fV (fLc (iRng (fAs [fV (fOp2 oAdd (fV (fC (.int 1))) (fV (fCall sem__law_draw (fAs [fPk 0, fV (fC (.int 4))]))))])) (bName 3) (tYesF) (fCall sem__law_pick (fAs [fPk 0, fV (fVar 2)])) [3])))) (fNx)) (fRet (fOp2 oAdd (fV (fOp2 oMulA (fV (fOp2 oAdd (fV (fCall sem__law_pick (fAs [fPk 0, fV (fVar 2)]))) (fV (fCall sem__law_pick (fAs [fPk 0, fV (fVar 2)]))))) (fV (fC (.int 19))))) (fV (fOp2 oIx (fV (fOpV oLstD (fAs [fV (fC (.str "")), fV (fC (.str "a")), fV (fC (.str "ab"))]))) (fV (fCall sem__law_draw (fAs [fPk 0, fV (fC (.int 3))]))))))))))
noncomputable def sem__law_word : Fn := runF 4 body__law_word
abbrev s__law_name : Stmt := topS 49
abbrev N__law_name : List Str := ["hand", "kind", "name", "k"]
noncomputable def body__law_name : Nv → R Fl := fSeq (fSet 1 (fCall sem__law_draw (fAs [fPk 0, fV (fC (.int 10))]))) (fSeq (fIf (fTest (fOp2 oLt (fPk 1) (fV (fC (.int 8))))) (fRet (fOp2 oIx (fV (fOpV oLstD (fAs [fV (fC (.str "a")), fV (fC (.str "b")), fV (fC (.str "a")), fV (fC (.str "b")), fV (fC (.str "x")), fV (fC (.str "each")), fV (fC (.str "join")), fV (fC (.str "lasts"))]))) (fPk 1))) (fNx)) (fSeq (fSet 2 (fJoin (fV (fC (.str ""))) (fV (fLc (iRng (fAs [fV (fOp2 oAdd (fV (fC (.int 1))) (fV (fCall sem__law_draw (fAs [fPk 0, fV (fC (.int 8))]))))])) (bName 3) (tYesF) (fCall sem__law_pick (fAs [fPk 0, fV (fC (.str "abcdefghijklmnopqrstuvwxyz"))])) [3])))) (fRet (fIf (fTest (fOp2 oIn (fPk 2) (fV (fOpV oLstD (fAs [fV (fC (.str "many")), fV (fC (.str "last"))]))))) (fOp2 oAdd (fV (fC (.str "many"))) (fV (fSl (fPk 2) (pNone) (pSome (fC (.int 1)))))) (fVar 2)))))
noncomputable def sem__law_name : Fn := runF 4 body__law_name
abbrev s__law_row : Stmt := topS 59
abbrev N__law_row : List Str := ["hand", "pool", "loops", "kind", "k"]
noncomputable def body__law_row : Nv → R Fl := fSeq (fSet 3 (fCall sem__law_draw (fAs [fPk 0, fV (fC (.int 30))]))) (fSeq (fIf (fTest (fOp2 oEq (fPk 3) (fV (fC (.int 0))))) (fRet (fOpL oTuple (fAs [fV (fLc (iRng (fAs [fV (fC (.int 20))])) (bName 4) (tYesF) (fCall sem__law_pick (fAs [fPk 0, fV (fVar 1)])) [4])]))) (fNx)) (fSeq (fIf (tAndF (fTest (fOp2 oEq (fPk 3) (fV (fC (.int 1))))) (fTest (fOp2 oLt (fPk 2) (fV (fC (.int 2)))))) (fRet (fOp2 oMulA (fV (fOpL oTuple (fAs [fV (fLc (iRng (fAs [fV (fC (.int 10))])) (bName 4) (tYesF) (fCall sem__law_pick (fAs [fPk 0, fV (fVar 1)])) [4])]))) (fV (fOp2 oIx (fV (fOpV oLstD (fAs [fV (fC (.int 39)), fV (fC (.int 40))]))) (fV (fCall sem__law_draw (fAs [fPk 0, fV (fC (.int 2))]))))))) (fNx)) (fRet (fOpL oTuple (fAs [fV (fLc (iRng (fAs [fV (fCall sem__law_draw (fAs [fPk 0, fV (fC (.int 9))]))])) (bName 4) (tYesF) (fCall sem__law_pick (fAs [fPk 0, fV (fVar 1)])) [4])])))))
noncomputable def sem__law_row : Fn := runF 5 body__law_row
abbrev s__law_long : Stmt := topS 60
abbrev N__law_long : List Str := ["hand", "size", "sign"]
noncomputable def body__law_long : Nv → R Fl := fSeq (fSet 1 (fCall sem__law_pick (fAs [fPk 0, fV (fOpV oLstD (fAs [fV (fC (.int 17)), fV (fC (.int 19)), fV (fC (.int 20)), fV (fC (.int 21)), fV (fC (.int 23)), fV (fC (.int 39)), fV (fC (.int 40)), fV (fC (.int 0)), fV (fC (.int 1)), fV (fC (.int 2))]))]))) (fSeq (fSet 2 (fCall sem__law_pick (fAs [fPk 0, fV (fCall sem__law_signs (fAs []))]))) (fRet (fIf (fTest (fOp2 oGt (fPk 1) (fV (fC (.int 0))))) (fOp2 oAdd (fV (fOp2 oMulA (fPk 2) (fV (fOp2 oSub (fPk 1) (fV (fC (.int 1))))))) (fV (fCall sem__law_pick (fAs [fPk 0, fV (fOpV oLstD (fAs [fV (fVar 2), fV (fC (.str "a")), fV (fC (.str "b"))]))])))) (fC (.str "")))))
noncomputable def sem__law_long : Fn := runF 3 body__law_long
abbrev s__law_small : Stmt := topS 61
abbrev N__law_small : List Str := ["hand", "words", "some", "e", "other", "way", "kind", "test", "found", "word"]
noncomputable def body__law_small : Nv → R Fl := fSeq (fSet 2 (fOp2 oAdd (fV (fOpV oLstD (fAs [fV (fOpV oTupD (fAs [fV (fC (.str "last"))])), fV (fOpV oTupD (fAs [fV (fC (.str "name")), fV (fC (.str "x"))])), fV (fOpV oTupD (fAs [fV (fC (.str "many"))]))]))) (fV (fLc (iAnyF (fVar 1)) (bName 9) (tYesF) (fOpV oTupD (fAs [fV (fC (.str "text")), fV (fVar 9)])) [9])))) (fSeq (fPar 3 4 (fCall sem__law_pick (fAs [fPk 0, fV (fVar 2)])) (fCall sem__law_pick (fAs [fPk 0, fV (fVar 2)]))) (fSeq (fSet 5 (fCall sem__law_draw (fAs [fPk 0, fV (fC (.int 6))]))) (fSeq (fIf (fTest (fOp2 oLt (fPk 5) (fV (fC (.int 2))))) (fSet 3 (fIf (fTest (fOp2 oEq (fPk 5) (fV (fC (.int 0))))) (fOpV oTupD (fAs [fV (fC (.str "join")), fV (fVar 3), fV (fVar 4)])) (fOpV oTupD (fAs [fV (fC (.str "join")), fV (fOpV oTupD (fAs [fV (fC (.str "join")), fV (fVar 3), fV (fVar 4)])), fV (fCall sem__law_pick (fAs [fPk 0, fV (fVar 2)]))])))) (fIf (fTest (fOp2 oLt (fPk 5) (fV (fC (.int 5))))) (fSeq (fSet 3 (fOpV oTupD (fAs [fV (fOp2 oIx (fV (fOpV oLstD (fAs [fV (fC (.str "turn")), fV (fC (.str "rest")), fV (fC (.str "first"))]))) (fV (fOp2 oSub (fPk 5) (fV (fC (.int 2)))))), fV (fVar 3)]))) (fSet 3 (fIf (fTest (fOp2 oEq (fV (fCall sem__law_draw (fAs [fPk 0, fV (fC (.int 3))]))) (fV (fC (.int 0))))) (fOpV oTupD (fAs [fV (fC (.str "join")), fV (fVar 3), fV (fVar 4)])) (fVar 3)))) (fNx))) (fSeq (fSet 6 (fCall sem__law_draw (fAs [fPk 0, fV (fC (.int 4))]))) (fSeq (fIf (fTest (fOp2 oEq (fPk 6) (fV (fC (.int 0))))) (fRet (fOpV oTupD (fAs [fV (fOpV oTupD (fAs [fV (fC (.str "let")), fV (fC (.str "x")), fV (fVar 4)])), fV (fOpV oTupD (fAs [fV (fC (.str "say")), fV (fVar 3)]))]))) (fNx)) (fSeq (fSet 7 (fOpV oTupD (fAs [fV (fCall sem__law_pick (fAs [fPk 0, fV (fOpV oLstD (fAs [fV (fC (.str "same")), fV (fC (.str "ahead")), fV (fC (.str "in"))]))])), fV (fVar 3), fV (fCall sem__law_pick (fAs [fPk 0, fV (fVar 2)]))]))) (fSeq (fSet 7 (fIf (fTest (fOp2 oEq (fV (fCall sem__law_draw (fAs [fPk 0, fV (fC (.int 4))]))) (fV (fC (.int 0))))) (fOpV oTupD (fAs [fV (fC (.str "not")), fV (fVar 7)])) (fVar 7))) (fSeq (fIf (fTest (fOp2 oEq (fPk 6) (fV (fC (.int 1))))) (fRet (fOpV oTupD (fAs [fV (fOpV oTupD (fAs [fV (fC (.str "each")), fV (fC (.str "x")), fV (fOpV oTupD (fAs [fV (fOpV oTupD (fAs [fV (fC (.str "if")), fV (fVar 7), fV (fOpV oTupD (fAs [fV (fOpV oTupD (fAs [fV (fC (.str "say")), fV (fOpV oTupD (fAs [fV (fC (.str "name")), fV (fC (.str "x"))]))]))])), fV (fOpV oTupD (fAs []))]))]))])), fV (fOpV oTupD (fAs [fV (fC (.str "say")), fV (fOpV oTupD (fAs [fV (fC (.str "join")), fV (fOpV oTupD (fAs [fV (fC (.str "text")), fV (fC (.str "n"))])), fV (fVar 3)]))]))]))) (fNx)) (fSeq (fSet 8 (fOpV oTupD (fAs [fV (fOpV oTupD (fAs [fV (fC (.str "if")), fV (fVar 7), fV (fOpV oTupD (fAs [fV (fOpV oTupD (fAs [fV (fC (.str "say")), fV (fVar 3)]))])), fV (fOpV oTupD (fAs [fV (fOpV oTupD (fAs [fV (fC (.str "say")), fV (fOpV oTupD (fAs [fV (fC (.str "join")), fV (fOpV oTupD (fAs [fV (fC (.str "text")), fV (fC (.str "n"))])), fV (fOpV oTupD (fAs [fV (fC (.str "last"))]))]))]))]))]))]))) (fRet (fIf (fTest (fOp2 oEq (fPk 6) (fV (fC (.int 2))))) (fVar 8) (fOp2 oAdd (fV (fOpV oTupD (fAs [fV (fOpV oTupD (fAs [fV (fC (.str "let")), fV (fC (.str "x")), fV (fOpV oTupD (fAs [fV (fC (.str "text")), fV (fOp2 oIx (fPk 1) (fV (fC (.int 0))))]))]))]))) (fPk 8)))))))))))))
noncomputable def sem__law_small : Fn := runF 10 body__law_small
abbrev s_is_program : Stmt := topS 34
abbrev N_is_program : List Str := ["statements", "waiting", "many", "sort", "thing", "deep", "eaches", "more"]
noncomputable def body_is_program : Nv → R Fl := fSeq (fSetM 1 (fCallM sem_within (fAs [fV (fVar 0), fV (fC (.int 1)), fV (fC (.int 0))]))) (fSeq (fSet 2 (fC (.int 0))) (fSeq (whileN (fTru (fPk 1)) (fSeq (fAsg (fMt 1 mPop (fAs [])) (bTup [bName 3, bName 4, bName 5, bName 6])) (fSeq (fIf (fTest (fOp2 oIn (fPk 3) (fV (fOpV oTupD (fAs [fV (fC (.str "name")), fV (fC (.str "word"))]))))) (fSet 7 (fIf (fTest (fCall sem_is_leaf_right (fAs [fV (fVar 3), fV (fVar 4)]))) (fOpV oLstD (fAs [])) (fC .non))) (fIf (fTest (fOp2 oEq (fPk 3) (fV (fC (.str "body"))))) (fSet 7 (fMv (fCallM sem_within (fAs [fV (fVar 4), fV (fVar 5), fV (fVar 6)])))) (fSeq (fAugI 2 (fC (.int 1))) (fSet 7 (fCall sem_within_part (fAs [fV (fVar 3), fV (fVar 4), fV (fVar 5), fV (fVar 6)])))))) (fSeq (fIf (tOrF (fTest (fOp2 oIsN (fPk 7) (fV (fC .non)))) (fTest (fOp2 oGt (fPk 2) (fV (fC (.int 500)))))) (fRet (fC (.bl false))) (fNx)) (fDrop (fMt 1 mExtend (fAs [fV (fVar 7)])))))) 1000000) (fRet (fOp2 oNotN (fPk 1) (fV (fC .non))))))
noncomputable def sem_is_program : Fn := runF 8 body_is_program
abbrev s__law_e : Stmt := topS 50
abbrev N__law_e : List Str := ["hand", "pool", "room", "deep", "kind", "first"]
noncomputable def body__law_e (self : Fn) : Nv → R Fl := fSeq (fSetIx 2 (fC (.int 0)) (fOp2 oSub (fV (fOp2 oIx (fPk 2) (fV (fC (.int 0))))) (fV (fC (.int 1))))) (fSeq (fSet 4 (fCall sem__law_draw (fAs [fPk 0, fV (fC (.int 14))]))) (fSeq (fIf (tAndF (fTest (fOp2 oGt (fV (fOp2 oIx (fPk 2) (fV (fC (.int 0))))) (fV (fC (.int 0))))) (tAndF (fTest (fOp2 oGt (fPk 3) (fV (fC (.int 1))))) (fTest (fOp2 oLt (fPk 4) (fV (fC (.int 3))))))) (fSeq (fSet 5 (fCall self (fAs [fPk 0, fV (fVar 1), fPk 2, fV (fOp2 oSub (fPk 3) (fV (fC (.int 1))))]))) (fRet (fOpV oTupD (fAs [fV (fC (.str "join")), fV (fVar 5), fV (fCall self (fAs [fPk 0, fV (fVar 1), fPk 2, fV (fOp2 oSub (fPk 3) (fV (fC (.int 1))))]))])))) (fNx)) (fSeq (fIf (tAndF (fTest (fOp2 oGt (fV (fOp2 oIx (fPk 2) (fV (fC (.int 0))))) (fV (fC (.int 0))))) (tAndF (fTest (fOp2 oGt (fPk 3) (fV (fC (.int 1))))) (fTest (fOp2 oLt (fPk 4) (fV (fC (.int 6))))))) (fRet (fOpV oTupD (fAs [fV (fOp2 oIx (fV (fOpV oLstD (fAs [fV (fC (.str "turn")), fV (fC (.str "rest")), fV (fC (.str "first"))]))) (fV (fOp2 oSub (fPk 4) (fV (fC (.int 3)))))), fV (fCall self (fAs [fPk 0, fV (fVar 1), fPk 2, fV (fOp2 oSub (fPk 3) (fV (fC (.int 1))))]))]))) (fNx)) (fSeq (fIf (fTest (fOp2 oEq (fPk 4) (fV (fC (.int 13))))) (fRet (fOpV oTupD (fAs [fV (fC (.str "many"))]))) (fNx)) (fSeq (fIf (tOrF (fTest (fOp2 oGt (fPk 4) (fV (fC (.int 10))))) (fTest (fChain oLt oLt (fV (fC (.int 2))) (fPk 4) (fV (fC (.int 6)))))) (fRet (fOpV oTupD (fAs [fV (fC (.str "last"))]))) (fNx)) (fSeq (fIf (tOrF (fTest (fOp2 oGt (fPk 4) (fV (fC (.int 7))))) (fTest (fOp2 oLt (fPk 4) (fV (fC (.int 3)))))) (fRet (fOpV oTupD (fAs [fV (fC (.str "text")), fV (fCall sem__law_pick (fAs [fPk 0, fV (fVar 1)]))]))) (fNx)) (fRet (fOpV oTupD (fAs [fV (fC (.str "name")), fV (fCall sem__law_name (fAs [fPk 0]))])))))))))
noncomputable def sem__law_e : Nat → Fn
  | 0 => fn0
  | n + 1 => runF 6 (body__law_e (sem__law_e n))
abbrev s_Program___init__ : Stmt := inClass (topS 39) 0
abbrev N_Program___init__ : List Str := ["self", "statements"]
noncomputable def body_Program___init__ : Nv → R Fl := fSeq (fIf (tNotF (fTest (fCall sem_is_program (fAs [fV (fVar 1)])))) (fBad) (fNx)) (fSetFld 0 "statements" (fVar 1))
noncomputable def sem_Program___init__ : Fn := runF 2 body_Program___init__
abbrev s_is_so : Stmt := topS 36
abbrev N_is_so : List Str := ["condition", "row", "meanings", "one", "other"]
noncomputable def body_is_so (self : Fn) : Nv → R Fl := fSeq (fIf (fTest (fOp2 oEq (fV (fOp2 oIx (fPk 0) (fV (fC (.int 0))))) (fV (fC (.str "not"))))) (fRet (fNot (fCall self (fAs [fV (fOp2 oIx (fPk 0) (fV (fC (.int 1)))), fV (fVar 1), fPk 2])))) (fNx)) (fSeq (fPar 3 4 (fCall (sem_told 25) (fAs [fV (fOp2 oIx (fPk 0) (fV (fC (.int 1)))), fV (fVar 1), fPk 2])) (fCall (sem_told 25) (fAs [fV (fOp2 oIx (fPk 0) (fV (fC (.int 2)))), fV (fVar 1), fPk 2]))) (fSeq (fIf (fTest (fOp2 oEq (fV (fOp2 oIx (fPk 0) (fV (fC (.int 0))))) (fV (fC (.str "same"))))) (fRet (fOp2 oEq (fPk 3) (fPk 4))) (fNx)) (fRet (fIf (fTest (fOp2 oEq (fV (fOp2 oIx (fPk 0) (fV (fC (.int 0))))) (fV (fC (.str "ahead"))))) (fOp2 oLt (fPk 3) (fPk 4)) (fOp2 oIn (fPk 3) (fPk 4))))))
noncomputable def sem_is_so : Nat → Fn
  | 0 => fn0
  | n + 1 => runF 5 (body_is_so (sem_is_so n))
abbrev s__law_is_so : Stmt := topS 56
abbrev N__law_is_so : List Str := ["c", "row", "names", "first", "second"]
noncomputable def body__law_is_so (self : Fn) : Nv → R Fl := fSeq (fIf (fTest (fOp2 oEq (fV (fOp2 oIx (fPk 0) (fV (fC (.int 0))))) (fV (fC (.str "not"))))) (fRet (fNot (fCall self (fAs [fV (fOp2 oIx (fPk 0) (fV (fC (.int 1)))), fV (fVar 1), fPk 2])))) (fNx)) (fSeq (fSet 3 (fCall (sem__law_value 25) (fAs [fV (fOp2 oIx (fPk 0) (fV (fC (.int 1)))), fV (fVar 1), fPk 2]))) (fSeq (fSet 4 (fCall (sem__law_value 25) (fAs [fV (fOp2 oIx (fPk 0) (fV (fC (.int 2)))), fV (fVar 1), fPk 2]))) (fSeq (fIf (fTest (fOp2 oEq (fV (fOp2 oIx (fPk 0) (fV (fC (.int 0))))) (fV (fC (.str "same"))))) (fRet (fOp2 oEq (fPk 3) (fPk 4))) (fNx)) (fSeq (fIf (fTest (fOp2 oEq (fV (fOp2 oIx (fPk 0) (fV (fC (.int 0))))) (fV (fC (.str "ahead"))))) (fRet (fOp2 oLt (fPk 3) (fPk 4))) (fNx)) (fRet (fOp2 oIn (fPk 3) (fPk 4)))))))
noncomputable def sem__law_is_so : Nat → Fn
  | 0 => fn0
  | n + 1 => runF 5 (body__law_is_so (sem__law_is_so n))
abbrev s__law_c : Stmt := topS 51
abbrev N__law_c : List Str := ["hand", "pool", "room", "deep", "kind", "first"]
noncomputable def body__law_c (self : Fn) : Nv → R Fl := fSeq (fSetIx 2 (fC (.int 0)) (fOp2 oSub (fV (fOp2 oIx (fPk 2) (fV (fC (.int 0))))) (fV (fC (.int 1))))) (fSeq (fSet 4 (fCall sem__law_draw (fAs [fPk 0, fV (fC (.int 8))]))) (fSeq (fIf (tAndF (fTest (fOp2 oLt (fPk 4) (fV (fC (.int 2))))) (tAndF (fTest (fOp2 oGt (fV (fOp2 oIx (fPk 2) (fV (fC (.int 0))))) (fV (fC (.int 0))))) (fTest (fOp2 oGt (fPk 3) (fV (fC (.int 2))))))) (fRet (fOpV oTupD (fAs [fV (fC (.str "not")), fV (fCall self (fAs [fPk 0, fV (fVar 1), fPk 2, fV (fOp2 oSub (fPk 3) (fV (fC (.int 1))))]))]))) (fNx)) (fSeq (fSet 5 (fCall (sem__law_e 25) (fAs [fPk 0, fV (fVar 1), fPk 2, fV (fOp2 oSub (fPk 3) (fV (fC (.int 1))))]))) (fRet (fOpV oTupD (fAs [fV (fCall sem__law_pick (fAs [fPk 0, fV (fOpV oLstD (fAs [fV (fC (.str "same")), fV (fC (.str "ahead")), fV (fC (.str "in"))]))])), fV (fVar 5), fV (fCall (sem__law_e 25) (fAs [fPk 0, fV (fVar 1), fPk 2, fV (fOp2 oSub (fPk 3) (fV (fC (.int 1))))]))]))))))
noncomputable def sem__law_c : Nat → Fn
  | 0 => fn0
  | n + 1 => runF 6 (body__law_c (sem__law_c n))
abbrev s_said_each : Stmt := topS 37
abbrev N_said_each : List Str := ["statement", "row", "meanings", "one", "found"]
noncomputable def body_said_each (s_said_each_ s_said_ : Fn) : Nv → R Fl := fSeq (fFor (iAnyF (fVar 1)) (bName 3) (fSeq (fSetK 2 (fOp2 oIx (fPk 0) (fV (fC (.int 1)))) (fVar 3)) (fSeq (fSet 4 (fCall s_said_ (fAs [fV (fOp2 oIx (fPk 0) (fV (fC (.int 2)))), fV (fVar 1), fPk 2]))) (fIf (fTest (fOp2 oNotN (fPk 4) (fV (fC .non)))) (fRet (fVar 4)) (fNx))))) (fRet (fC .non))
abbrev s_said : Stmt := topS 38
abbrev N_said : List Str := ["body", "row", "meanings", "statement", "found"]
noncomputable def body_said (s_said_each_ s_said_ : Fn) : Nv → R Fl := fSeq (fFor (iAnyF (fVar 0)) (bName 3) (fSeq (fSet 4 (fC .non)) (fSeq (fIf (fTest (fOp2 oEq (fV (fOp2 oIx (fPk 3) (fV (fC (.int 0))))) (fV (fC (.str "say"))))) (fSet 4 (fCall (sem_told 25) (fAs [fV (fOp2 oIx (fPk 3) (fV (fC (.int 1)))), fV (fVar 1), fPk 2]))) (fIf (fTest (fOp2 oEq (fV (fOp2 oIx (fPk 3) (fV (fC (.int 0))))) (fV (fC (.str "let"))))) (fSetK 2 (fOp2 oIx (fPk 3) (fV (fC (.int 1)))) (fCall (sem_told 25) (fAs [fV (fOp2 oIx (fPk 3) (fV (fC (.int 2)))), fV (fVar 1), fPk 2]))) (fIf (fTest (fOp2 oEq (fV (fOp2 oIx (fPk 3) (fV (fC (.int 0))))) (fV (fC (.str "if"))))) (fSet 4 (fCall s_said_ (fAs [fV (fIf (fTest (fCall (sem_is_so 25) (fAs [fV (fOp2 oIx (fPk 3) (fV (fC (.int 1)))), fV (fVar 1), fPk 2]))) (fOp2 oIx (fPk 3) (fV (fC (.int 2)))) (fOp2 oIx (fPk 3) (fV (fC (.int 3))))), fV (fVar 1), fPk 2]))) (fSet 4 (fCall s_said_each_ (fAs [fV (fVar 3), fV (fVar 1), fPk 2])))))) (fIf (fTest (fOp2 oNotN (fPk 4) (fV (fC .non)))) (fRet (fVar 4)) (fNx))))) (fRet (fC .non))
noncomputable def grp_said_each : Nat → Fn × Fn
  | 0 => (fn0, fn0)
  | n + 1 => (runF 5 (body_said_each ((grp_said_each n).1) ((grp_said_each n).2)), runF 5 (body_said ((grp_said_each n).1) ((grp_said_each n).2)))
noncomputable def sem_said_each (n : Nat) : Fn := (grp_said_each n).1
noncomputable def sem_said (n : Nat) : Fn := (grp_said_each n).2
theorem sem_said_each_0 : sem_said_each 0 = fn0 := rfl
theorem sem_said_each_s (n : Nat) : sem_said_each (n + 1) = runF 5 (body_said_each (sem_said_each n) (sem_said n)) := rfl
theorem sem_said_0 : sem_said 0 = fn0 := rfl
theorem sem_said_s (n : Nat) : sem_said (n + 1) = runF 5 (body_said (sem_said_each n) (sem_said n)) := rfl
abbrev s__law_run : Stmt := topS 57
abbrev N__law_run : List Str := ["statements", "row", "names", "statement", "found", "body", "word"]
noncomputable def body__law_run (self : Fn) : Nv → R Fl := fSeq (fFor (iAnyF (fVar 0)) (bName 3) (fSeq (fSet 4 (fC .non)) (fSeq (fIf (fTest (fOp2 oEq (fV (fOp2 oIx (fPk 3) (fV (fC (.int 0))))) (fV (fC (.str "say"))))) (fRet (fCall (sem__law_value 25) (fAs [fV (fOp2 oIx (fPk 3) (fV (fC (.int 1)))), fV (fVar 1), fPk 2]))) (fNx)) (fSeq (fIf (fTest (fOp2 oEq (fV (fOp2 oIx (fPk 3) (fV (fC (.int 0))))) (fV (fC (.str "let"))))) (fSetK 2 (fOp2 oIx (fPk 3) (fV (fC (.int 1)))) (fCall (sem__law_value 25) (fAs [fV (fOp2 oIx (fPk 3) (fV (fC (.int 2)))), fV (fVar 1), fPk 2]))) (fIf (fTest (fOp2 oEq (fV (fOp2 oIx (fPk 3) (fV (fC (.int 0))))) (fV (fC (.str "if"))))) (fSeq (fSet 5 (fIf (fTest (fCall (sem__law_is_so 25) (fAs [fV (fOp2 oIx (fPk 3) (fV (fC (.int 1)))), fV (fVar 1), fPk 2]))) (fOp2 oIx (fPk 3) (fV (fC (.int 2)))) (fOp2 oIx (fPk 3) (fV (fC (.int 3)))))) (fSet 4 (fCall self (fAs [fV (fVar 5), fV (fVar 1), fPk 2])))) (fFor (iAnyF (fVar 1)) (bName 6) (fSeq (fSetK 2 (fOp2 oIx (fPk 3) (fV (fC (.int 1)))) (fVar 6)) (fSeq (fSet 4 (fCall self (fAs [fV (fOp2 oIx (fPk 3) (fV (fC (.int 2)))), fV (fVar 1), fPk 2]))) (fIf (fTest (fOp2 oNotN (fPk 4) (fV (fC .non)))) (fRet (fVar 4)) (fNx))))))) (fIf (fTest (fOp2 oNotN (fPk 4) (fV (fC .non)))) (fRet (fVar 4)) (fNx)))))) (fRet (fC .non))
noncomputable def sem__law_run : Nat → Fn
  | 0 => fn0
  | n + 1 => runF 7 (body__law_run (sem__law_run n))
abbrev s__law_statement : Stmt := topS 52
abbrev N__law_statement : List Str := ["hand", "pool", "room", "deep", "loops", "kind", "name", "test", "body"]
noncomputable def body__law_statement (s__law_statement_ s__law_body_ : Fn) : Nv → R Fl := fSeq (fSetIx 2 (fC (.int 0)) (fOp2 oSub (fV (fOp2 oIx (fPk 2) (fV (fC (.int 0))))) (fV (fC (.int 1))))) (fSeq (fSet 5 (fCall sem__law_draw (fAs [fPk 0, fV (fC (.int 12))]))) (fSeq (fIf (tAndF (fTest (fOp2 oLt (fPk 5) (fV (fC (.int 3))))) (tAndF (fTest (fOp2 oGt (fV (fOp2 oIx (fPk 2) (fV (fC (.int 0))))) (fV (fC (.int 0))))) (fTest (fOp2 oGt (fPk 3) (fV (fC (.int 2))))))) (fSeq (fSet 7 (fCall (sem__law_c 25) (fAs [fPk 0, fV (fVar 1), fPk 2, fV (fOp2 oSub (fPk 3) (fV (fC (.int 1))))]))) (fSeq (fSet 8 (fCall s__law_body_ (fAs [fPk 0, fV (fVar 1), fPk 2, fV (fOp2 oSub (fPk 3) (fV (fC (.int 1)))), fV (fVar 4)]))) (fRet (fOpV oTupD (fAs [fV (fC (.str "if")), fV (fVar 7), fV (fVar 8), fV (fCall s__law_body_ (fAs [fPk 0, fV (fVar 1), fPk 2, fV (fOp2 oSub (fPk 3) (fV (fC (.int 1)))), fV (fVar 4)]))]))))) (fNx)) (fSeq (fIf (tAndF (fTest (fOp2 oLt (fPk 5) (fV (fC (.int 6))))) (tAndF (fTest (fOp2 oGt (fV (fOp2 oIx (fPk 2) (fV (fC (.int 0))))) (fV (fC (.int 0))))) (fTest (fOp2 oGt (fPk 4) (fV (fC (.int 0))))))) (fSeq (fSet 6 (fCall sem__law_name (fAs [fPk 0]))) (fRet (fOpV oTupD (fAs [fV (fC (.str "each")), fV (fVar 6), fV (fCall s__law_body_ (fAs [fPk 0, fV (fVar 1), fPk 2, fV (fOp2 oSub (fPk 3) (fV (fC (.int 1)))), fV (fOp2 oSub (fPk 4) (fV (fC (.int 1))))]))])))) (fNx)) (fSeq (fIf (fTest (fOp2 oEq (fPk 5) (fV (fC (.int 6))))) (fRet (fOpV oTupD (fAs [fV (fC (.str "say")), fV (fCall (sem__law_e 25) (fAs [fPk 0, fV (fVar 1), fPk 2, fV (fOp2 oSub (fPk 3) (fV (fC (.int 1))))]))]))) (fNx)) (fSeq (fSet 6 (fCall sem__law_name (fAs [fPk 0]))) (fRet (fOpV oTupD (fAs [fV (fC (.str "let")), fV (fVar 6), fV (fCall (sem__law_e 25) (fAs [fPk 0, fV (fVar 1), fPk 2, fV (fOp2 oSub (fPk 3) (fV (fC (.int 1))))]))]))))))))
abbrev s__law_body : Stmt := topS 53
abbrev N__law_body : List Str := ["hand", "pool", "room", "deep", "loops", "found", "k"]
noncomputable def body__law_body (s__law_statement_ s__law_body_ : Fn) : Nv → R Fl := fSeq (fSet 5 (fOpV oTupD (fAs []))) (fSeq (fFor (iRng (fAs [fV (fCall sem__law_draw (fAs [fPk 0, fV (fC (.int 5))]))])) (bName 6) (fIf (tAndF (fTest (fOp2 oGt (fV (fOp2 oIx (fPk 2) (fV (fC (.int 0))))) (fV (fC (.int 0))))) (fTest (fOp2 oGt (fPk 3) (fV (fC (.int 1)))))) (fSet 5 (fOp2 oAdd (fPk 5) (fV (fOpV oTupD (fAs [fV (fCall s__law_statement_ (fAs [fPk 0, fV (fVar 1), fPk 2, fV (fVar 3), fV (fVar 4)]))]))))) (fNx))) (fRet (fVar 5)))
noncomputable def grp__law_statement : Nat → Fn × Fn
  | 0 => (fn0, fn0)
  | n + 1 => (runF 9 (body__law_statement ((grp__law_statement n).1) ((grp__law_statement n).2)), runF 7 (body__law_body ((grp__law_statement n).1) ((grp__law_statement n).2)))
noncomputable def sem__law_statement (n : Nat) : Fn := (grp__law_statement n).1
noncomputable def sem__law_body (n : Nat) : Fn := (grp__law_statement n).2
theorem sem__law_statement_0 : sem__law_statement 0 = fn0 := rfl
theorem sem__law_statement_s (n : Nat) : sem__law_statement (n + 1) = runF 9 (body__law_statement (sem__law_statement n) (sem__law_body n)) := rfl
theorem sem__law_body_0 : sem__law_body 0 = fn0 := rfl
theorem sem__law_body_s (n : Nat) : sem__law_body (n + 1) = runF 7 (body__law_body (sem__law_statement n) (sem__law_body n)) := rfl
abbrev s__law_due : Stmt := topS 58
abbrev N__law_due : List Str := ["statements", "row", "found"]
noncomputable def body__law_due : Nv → R Fl := fSeq (fSet 2 (fCallD (sem__law_run 45) (fAs [fV (fVar 0), fV (fVar 1)]))) (fRet (fIf (fTest (fOp2 oIsN (fPk 2) (fV (fC .non)))) (fC (.str "")) (fVar 2)))
noncomputable def sem__law_due : Fn := runF 3 body__law_due
abbrev s__law_program : Stmt := topS 54
abbrev N__law_program : List Str := ["hand", "pool", "most", "loops", "room", "deep", "found", "k"]
noncomputable def body__law_program : Nv → R Fl := fSeq (fSetN 4 (fOpV oLstD (fAs [fV (fVar 2)]))) (fSeq (fSet 5 (fCall sem__law_pick (fAs [fPk 0, fV (fOpV oLstD (fAs [fV (fC (.int 20)), fV (fC (.int 20)), fV (fC (.int 6)), fV (fC (.int 3))]))]))) (fSeq (fSet 6 (fOpV oTupD (fAs []))) (fSeq (fFor (iRng (fAs [fV (fOp2 oAdd (fV (fC (.int 1))) (fV (fCall sem__law_draw (fAs [fPk 0, fV (fC (.int 8))]))))])) (bName 7) (fIf (fTest (fOp2 oGt (fV (fOp2 oIx (fPk 4) (fV (fC (.int 0))))) (fV (fC (.int 0))))) (fSet 6 (fOp2 oAdd (fPk 6) (fV (fOpV oTupD (fAs [fV (fCall (sem__law_statement 45) (fAs [fPk 0, fV (fVar 1), fPk 4, fV (fVar 5), fV (fVar 3)]))]))))) (fNx))) (fSeq (fIf (fTest (fOp2 oGt (fV (fCall sem__law_draw (fAs [fPk 0, fV (fC (.int 3))]))) (fV (fC (.int 0))))) (fSet 6 (fOp2 oAdd (fPk 6) (fV (fOpV oTupD (fAs [fV (fOpV oTupD (fAs [fV (fC (.str "say")), fV (fCall (sem__law_e 25) (fAs [fPk 0, fV (fVar 1), fPk 4, fV (fOp2 oSub (fPk 5) (fV (fC (.int 1))))]))]))]))))) (fNx)) (fRet (fVar 6))))))
noncomputable def sem__law_program : Fn := runF 8 body__law_program
abbrev s_Program_word : Stmt := inClass (topS 39) 2
abbrev N_Program_word : List Str := ["self", "row", "found"]
noncomputable def body_Program_word : Nv → R Fl := fSeq (fIf (tNotF (fTest (fCall sem_is_row (fAs [fV (fVar 1)])))) (fBad) (fNx)) (fSeq (fSet 2 (fCallD (sem_said 50) (fAs [fV (fFld "statements" (fPk 0)), fV (fVar 1)]))) (fRet (fIf (fTest (fOp2 oIsN (fPk 2) (fV (fC .non)))) (fC (.str "")) (fVar 2))))
noncomputable def sem_Program_word : Fn := runF 3 body_Program_word
abbrev s_asked : Stmt := topS 41
abbrev N_asked : List Str := ["house", "row", "found"]
noncomputable def body_asked : Nv → R Fl := fSeq (fIf (tNotF (fTest (fCall sem_is_row (fAs [fV (fVar 1)])))) (fBad) (fNx)) (fSeq (fSet 2 (fMeth [0] (fun c => match c with | 0 => sem_Program_word | _ => fn0) "word" (fPk 0) (fAs [fV (fVar 1)]))) (fSeq (fIf (tNotF (fTest (fCall sem_is_word (fAs [fV (fVar 2)])))) (fRaise1 1 "row" (fVar 1)) (fNx)) (fRet (fVar 2))))
noncomputable def sem_asked : Fn := runF 3 body_asked
abbrev s__law_is_small_right : Stmt := topS 62
abbrev N__law_is_small_right : List Str := ["hand", "words", "statements", "house", "row", "k"]
noncomputable def body__law_is_small_right : Nv → R Fl := fSeq (fSetN 1 (fLc (iRng (fAs [fV (fC (.int 3))])) (bName 5) (tYesF) (fCall sem__law_long (fAs [fPk 0])) [5])) (fSeq (fDrop (fMt 1 mAppend (fAs [fV (fSl (fV (fOp2 oIx (fPk 1) (fV (fC (.int 0))))) (pSome (fCall sem__law_draw (fAs [fPk 0, fV (fC (.int 3))]))) (pSome (fOp2 oSub (fV (fOpL oLen (fAs [fV (fOp2 oIx (fPk 1) (fV (fC (.int 0))))]))) (fV (fCall sem__law_draw (fAs [fPk 0, fV (fC (.int 2))]))))))]))) (fSeq (fDrop (fMt 1 mAppend (fAs [fV (fOp2 oIx (fPk 1) (fV (fC (.int 1))))]))) (fSeq (fSet 2 (fCall sem__law_small (fAs [fPk 0, fV (fVar 1)]))) (fSeq (fSet 3 (fMake 0 sem_Program___init__ (fAs [fV (fVar 2)]))) (fSeq (fSet 4 (fOpL oTuple (fAs [fV (fLc (iRng (fAs [fV (fCall sem__law_pick (fAs [fPk 0, fV (fOpV oLstD (fAs [fV (fC (.int 0)), fV (fC (.int 1)), fV (fC (.int 2)), fV (fC (.int 3)), fV (fC (.int 10)), fV (fC (.int 20)), fV (fC (.int 21))]))]))])) (bName 5) (tYesF) (fCall sem__law_pick (fAs [fPk 0, fV (fVar 1)])) [5])]))) (fRet (fCall (sem__law_is 50) (fAs [fV (fMeth [0] (fun c => match c with | 0 => sem_Program_word | _ => fn0) "word" (fPk 3) (fAs [fV (fVar 4)])), fV (fCall sem__law_due (fAs [fV (fVar 2), fV (fVar 4)]))]))))))))
noncomputable def sem__law_is_small_right : Fn := runF 6 body__law_is_small_right
abbrev s_law : Stmt := topS 63
abbrev N_law : List Str := ["script", "hand", "k", "pool", "loops", "statements", "house", "row", "due"]
noncomputable def body_law : Nv → R Fl := fSeq (fSetN 1 (fCallN sem__law_hand (fAs [fV (fVar 0)]))) (fSeq (fFor (iRng (fAs [fV (fC (.int 12))])) (bName 2) (fIf (tNotF (fTest (fCall sem__law_is_small_right (fAs [fPk 1])))) (fRet (fC (.bl false))) (fNx))) (fSeq (fSet 3 (fOp2 oAdd (fV (fLc (iRng (fAs [fV (fC (.int 4))])) (bName 2) (tYesF) (fCall sem__law_word (fAs [fPk 1])) [2])) (fV (fOpV oLstD (fAs [fV (fC (.str "a")), fV (fC (.str "0")), fV (fC (.str "3"))]))))) (fSeq (fSet 4 (fCall sem__law_draw (fAs [fPk 1, fV (fC (.int 3))]))) (fSeq (fSet 5 (fCall sem__law_program (fAs [fPk 1, fV (fVar 3), fV (fOp2 oAdd (fV (fC (.int 10))) (fV (fCall sem__law_draw (fAs [fPk 1, fV (fC (.int 51))])))), fV (fVar 4)]))) (fSeq (fSet 6 (fMake 0 sem_Program___init__ (fAs [fV (fVar 5)]))) (fSeq (fIf (tNotF (fTest (fCall (sem__law_is 50) (fAs [fV (fFld "statements" (fPk 6)), fV (fVar 5)])))) (fRet (fC (.bl false))) (fNx)) (fSeq (fFor (iRng (fAs [fV (fC (.int 4))])) (bName 2) (fSeq (fSet 7 (fCall sem__law_row (fAs [fPk 1, fV (fVar 3), fV (fVar 4)]))) (fSeq (fSet 8 (fCall sem__law_due (fAs [fV (fVar 5), fV (fVar 7)]))) (fIf (tNotF (fTest (fCall (sem__law_is 50) (fAs [fV (fOpV oTupD (fAs [fV (fMeth [0] (fun c => match c with | 0 => sem_Program_word | _ => fn0) "word" (fPk 6) (fAs [fV (fVar 7)])), fV (fCall sem_asked (fAs [fV (fVar 6), fV (fVar 7)]))])), fV (fOpV oTupD (fAs [fV (fVar 8), fV (fVar 8)]))])))) (fRet (fC (.bl false))) (fNx))))) (fRet (fC (.bl true))))))))))
noncomputable def sem_law : Fn := runF 9 body_law
end Law

namespace Law
open PySem PySem.Spec PyProof.Rows L2 FL
/-- where things stand -/
structure Adr where
  a_is_sized : Addr
  d_is_sized : FuncData
  a_are_signs : Addr
  d_are_signs : FuncData
  a_is_word : Addr
  d_is_word : FuncData
  a_is_row : Addr
  d_is_row : FuncData
  a_BadHouse___init__ : Addr
  d_BadHouse___init__ : FuncData
  a_is_name : Addr
  d_is_name : FuncData
  a_sorts_of : Addr
  d_sorts_of : FuncData
  a_parts_of : Addr
  d_parts_of : FuncData
  a_is_leaf_right : Addr
  d_is_leaf_right : FuncData
  a_within : Addr
  d_within : FuncData
  a_within_part : Addr
  d_within_part : FuncData
  a_is_program : Addr
  d_is_program : FuncData
  a_told : Addr
  d_told : FuncData
  a_is_so : Addr
  d_is_so : FuncData
  a_said_each : Addr
  d_said_each : FuncData
  a_said : Addr
  d_said : FuncData
  a_Program___init__ : Addr
  d_Program___init__ : FuncData
  a_Program___eq__ : Addr
  d_Program___eq__ : FuncData
  a_Program_word : Addr
  d_Program_word : FuncData
  a_asked : Addr
  d_asked : FuncData
  a__law_hand : Addr
  d__law_hand : FuncData
  a__law_draw : Addr
  d__law_draw : FuncData
  a__law_pick : Addr
  d__law_pick : FuncData
  a__law_is : Addr
  d__law_is : FuncData
  a__law_signs : Addr
  d__law_signs : FuncData
  a__law_word : Addr
  d__law_word : FuncData
  a__law_name : Addr
  d__law_name : FuncData
  a__law_e : Addr
  d__law_e : FuncData
  a__law_c : Addr
  d__law_c : FuncData
  a__law_statement : Addr
  d__law_statement : FuncData
  a__law_body : Addr
  d__law_body : FuncData
  a__law_program : Addr
  d__law_program : FuncData
  a__law_value : Addr
  d__law_value : FuncData
  a__law_is_so : Addr
  d__law_is_so : FuncData
  a__law_run : Addr
  d__law_run : FuncData
  a__law_due : Addr
  d__law_due : FuncData
  a__law_row : Addr
  d__law_row : FuncData
  a__law_long : Addr
  d__law_long : FuncData
  a__law_small : Addr
  d__law_small : FuncData
  a__law_is_small_right : Addr
  d__law_is_small_right : FuncData
  a_law : Addr
  d_law : FuncData
  c_TalkError : Addr
  c_BadHouse : Addr
  c_NoRow : Addr
  c_BadProgram : Addr
  c_Program : Addr
def gm (K : PySem.W.Frag) (a : Adr) : Gm := ⟨K, fun c => match c with  | _ => a.c_Program, fun c => match c with | 1 => a.c_BadHouse | 2 => a.c_NoRow | 3 => a.c_BadProgram | _ => a.c_TalkError, fun _ => .non⟩
structure Txt (w : World) (K : PySem.W.Frag) (mg : Str → Option Value) (a : Adr) : Prop where
  f_is_sized : Fun K "is_sized" "is_sized" s_is_sized a.a_is_sized a.d_is_sized
  b_is_sized : Binds K a.d_is_sized ["thing", "low", "high"] []
  mg_is_sized : mg "is_sized" = some (.ref a.a_is_sized)
  kp_is_sized : PySem.W.keepIn K (.ref a.a_is_sized) = true
  f_are_signs : Fun K "are_signs" "are_signs" s_are_signs a.a_are_signs a.d_are_signs
  b_are_signs : Binds K a.d_are_signs ["thing"] []
  mg_are_signs : mg "are_signs" = some (.ref a.a_are_signs)
  kp_are_signs : PySem.W.keepIn K (.ref a.a_are_signs) = true
  f_is_word : Fun K "is_word" "is_word" s_is_word a.a_is_word a.d_is_word
  b_is_word : Binds K a.d_is_word ["thing"] []
  mg_is_word : mg "is_word" = some (.ref a.a_is_word)
  kp_is_word : PySem.W.keepIn K (.ref a.a_is_word) = true
  f_is_row : Fun K "is_row" "is_row" s_is_row a.a_is_row a.d_is_row
  b_is_row : Binds K a.d_is_row ["thing"] []
  mg_is_row : mg "is_row" = some (.ref a.a_is_row)
  kp_is_row : PySem.W.keepIn K (.ref a.a_is_row) = true
  f_BadHouse___init__ : Fun K "__init__" "BadHouse.__init__" s_BadHouse___init__ a.a_BadHouse___init__ a.d_BadHouse___init__
  b_BadHouse___init__ : Binds K a.d_BadHouse___init__ ["self", "row"] []
  kp_BadHouse___init__ : PySem.W.keepIn K (.ref a.a_BadHouse___init__) = true
  f_is_name : Fun K "is_name" "is_name" s_is_name a.a_is_name a.d_is_name
  b_is_name : Binds K a.d_is_name ["thing"] []
  mg_is_name : mg "is_name" = some (.ref a.a_is_name)
  kp_is_name : PySem.W.keepIn K (.ref a.a_is_name) = true
  f_sorts_of : Fun K "sorts_of" "sorts_of" s_sorts_of a.a_sorts_of a.d_sorts_of
  b_sorts_of : Binds K a.d_sorts_of ["sort", "word"] []
  mg_sorts_of : mg "sorts_of" = some (.ref a.a_sorts_of)
  kp_sorts_of : PySem.W.keepIn K (.ref a.a_sorts_of) = true
  f_parts_of : Fun K "parts_of" "parts_of" s_parts_of a.a_parts_of a.d_parts_of
  b_parts_of : Binds K a.d_parts_of ["sort", "thing"] []
  mg_parts_of : mg "parts_of" = some (.ref a.a_parts_of)
  kp_parts_of : PySem.W.keepIn K (.ref a.a_parts_of) = true
  f_is_leaf_right : Fun K "is_leaf_right" "is_leaf_right" s_is_leaf_right a.a_is_leaf_right a.d_is_leaf_right
  b_is_leaf_right : Binds K a.d_is_leaf_right ["sort", "thing"] []
  mg_is_leaf_right : mg "is_leaf_right" = some (.ref a.a_is_leaf_right)
  kp_is_leaf_right : PySem.W.keepIn K (.ref a.a_is_leaf_right) = true
  f_within : Fun K "within" "within" s_within a.a_within a.d_within
  b_within : Binds K a.d_within ["body", "deep", "eaches"] []
  mg_within : mg "within" = some (.ref a.a_within)
  kp_within : PySem.W.keepIn K (.ref a.a_within) = true
  f_within_part : Fun K "within_part" "within_part" s_within_part a.a_within_part a.d_within_part
  b_within_part : Binds K a.d_within_part ["sort", "thing", "deep", "eaches"] []
  mg_within_part : mg "within_part" = some (.ref a.a_within_part)
  kp_within_part : PySem.W.keepIn K (.ref a.a_within_part) = true
  f_is_program : Fun K "is_program" "is_program" s_is_program a.a_is_program a.d_is_program
  b_is_program : Binds K a.d_is_program ["statements"] []
  mg_is_program : mg "is_program" = some (.ref a.a_is_program)
  kp_is_program : PySem.W.keepIn K (.ref a.a_is_program) = true
  f_told : Fun K "told" "told" s_told a.a_told a.d_told
  b_told : Binds K a.d_told ["expression", "row", "meanings"] []
  mg_told : mg "told" = some (.ref a.a_told)
  kp_told : PySem.W.keepIn K (.ref a.a_told) = true
  f_is_so : Fun K "is_so" "is_so" s_is_so a.a_is_so a.d_is_so
  b_is_so : Binds K a.d_is_so ["condition", "row", "meanings"] []
  mg_is_so : mg "is_so" = some (.ref a.a_is_so)
  kp_is_so : PySem.W.keepIn K (.ref a.a_is_so) = true
  f_said_each : Fun K "said_each" "said_each" s_said_each a.a_said_each a.d_said_each
  b_said_each : Binds K a.d_said_each ["statement", "row", "meanings"] []
  mg_said_each : mg "said_each" = some (.ref a.a_said_each)
  kp_said_each : PySem.W.keepIn K (.ref a.a_said_each) = true
  f_said : Fun K "said" "said" s_said a.a_said a.d_said
  b_said : Binds K a.d_said ["body", "row", "meanings"] []
  mg_said : mg "said" = some (.ref a.a_said)
  kp_said : PySem.W.keepIn K (.ref a.a_said) = true
  f_Program___init__ : Fun K "__init__" "Program.__init__" s_Program___init__ a.a_Program___init__ a.d_Program___init__
  b_Program___init__ : Binds K a.d_Program___init__ ["self", "statements"] []
  kp_Program___init__ : PySem.W.keepIn K (.ref a.a_Program___init__) = true
  f_Program___eq__ : Fun K "__eq__" "Program.__eq__" s_Program___eq__ a.a_Program___eq__ a.d_Program___eq__
  b_Program___eq__ : Binds K a.d_Program___eq__ ["self", "thing"] []
  kp_Program___eq__ : PySem.W.keepIn K (.ref a.a_Program___eq__) = true
  f_Program_word : Fun K "word" "Program.word" s_Program_word a.a_Program_word a.d_Program_word
  b_Program_word : Binds K a.d_Program_word ["self", "row"] []
  kp_Program_word : PySem.W.keepIn K (.ref a.a_Program_word) = true
  f_asked : Fun K "asked" "asked" s_asked a.a_asked a.d_asked
  b_asked : Binds K a.d_asked ["house", "row"] []
  mg_asked : mg "asked" = some (.ref a.a_asked)
  kp_asked : PySem.W.keepIn K (.ref a.a_asked) = true
  f__law_hand : Fun K "_law_hand" "_law_hand" s__law_hand a.a__law_hand a.d__law_hand
  b__law_hand : Binds K a.d__law_hand ["script"] []
  mg__law_hand : mg "_law_hand" = some (.ref a.a__law_hand)
  kp__law_hand : PySem.W.keepIn K (.ref a.a__law_hand) = true
  f__law_draw : Fun K "_law_draw" "_law_draw" s__law_draw a.a__law_draw a.d__law_draw
  b__law_draw : Binds K a.d__law_draw ["hand", "many"] []
  mg__law_draw : mg "_law_draw" = some (.ref a.a__law_draw)
  kp__law_draw : PySem.W.keepIn K (.ref a.a__law_draw) = true
  f__law_pick : Fun K "_law_pick" "_law_pick" s__law_pick a.a__law_pick a.d__law_pick
  b__law_pick : Binds K a.d__law_pick ["hand", "things"] []
  mg__law_pick : mg "_law_pick" = some (.ref a.a__law_pick)
  kp__law_pick : PySem.W.keepIn K (.ref a.a__law_pick) = true
  f__law_is : Fun K "_law_is" "_law_is" s__law_is a.a__law_is a.d__law_is
  b__law_is : Binds K a.d__law_is ["told_v", "due"] []
  mg__law_is : mg "_law_is" = some (.ref a.a__law_is)
  kp__law_is : PySem.W.keepIn K (.ref a.a__law_is) = true
  f__law_signs : Fun K "_law_signs" "_law_signs" s__law_signs a.a__law_signs a.d__law_signs
  b__law_signs : Binds K a.d__law_signs [] []
  mg__law_signs : mg "_law_signs" = some (.ref a.a__law_signs)
  kp__law_signs : PySem.W.keepIn K (.ref a.a__law_signs) = true
  f__law_word : Fun K "_law_word" "_law_word" s__law_word a.a__law_word a.d__law_word
  b__law_word : Binds K a.d__law_word ["hand"] []
  mg__law_word : mg "_law_word" = some (.ref a.a__law_word)
  kp__law_word : PySem.W.keepIn K (.ref a.a__law_word) = true
  f__law_name : Fun K "_law_name" "_law_name" s__law_name a.a__law_name a.d__law_name
  b__law_name : Binds K a.d__law_name ["hand"] []
  mg__law_name : mg "_law_name" = some (.ref a.a__law_name)
  kp__law_name : PySem.W.keepIn K (.ref a.a__law_name) = true
  f__law_e : Fun K "_law_e" "_law_e" s__law_e a.a__law_e a.d__law_e
  b__law_e : Binds K a.d__law_e ["hand", "pool", "room", "deep"] []
  mg__law_e : mg "_law_e" = some (.ref a.a__law_e)
  kp__law_e : PySem.W.keepIn K (.ref a.a__law_e) = true
  f__law_c : Fun K "_law_c" "_law_c" s__law_c a.a__law_c a.d__law_c
  b__law_c : Binds K a.d__law_c ["hand", "pool", "room", "deep"] []
  mg__law_c : mg "_law_c" = some (.ref a.a__law_c)
  kp__law_c : PySem.W.keepIn K (.ref a.a__law_c) = true
  f__law_statement : Fun K "_law_statement" "_law_statement" s__law_statement a.a__law_statement a.d__law_statement
  b__law_statement : Binds K a.d__law_statement ["hand", "pool", "room", "deep", "loops"] []
  mg__law_statement : mg "_law_statement" = some (.ref a.a__law_statement)
  kp__law_statement : PySem.W.keepIn K (.ref a.a__law_statement) = true
  f__law_body : Fun K "_law_body" "_law_body" s__law_body a.a__law_body a.d__law_body
  b__law_body : Binds K a.d__law_body ["hand", "pool", "room", "deep", "loops"] []
  mg__law_body : mg "_law_body" = some (.ref a.a__law_body)
  kp__law_body : PySem.W.keepIn K (.ref a.a__law_body) = true
  f__law_program : Fun K "_law_program" "_law_program" s__law_program a.a__law_program a.d__law_program
  b__law_program : Binds K a.d__law_program ["hand", "pool", "most", "loops"] []
  mg__law_program : mg "_law_program" = some (.ref a.a__law_program)
  kp__law_program : PySem.W.keepIn K (.ref a.a__law_program) = true
  f__law_value : Fun K "_law_value" "_law_value" s__law_value a.a__law_value a.d__law_value
  b__law_value : Binds K a.d__law_value ["e", "row", "names"] []
  mg__law_value : mg "_law_value" = some (.ref a.a__law_value)
  kp__law_value : PySem.W.keepIn K (.ref a.a__law_value) = true
  f__law_is_so : Fun K "_law_is_so" "_law_is_so" s__law_is_so a.a__law_is_so a.d__law_is_so
  b__law_is_so : Binds K a.d__law_is_so ["c", "row", "names"] []
  mg__law_is_so : mg "_law_is_so" = some (.ref a.a__law_is_so)
  kp__law_is_so : PySem.W.keepIn K (.ref a.a__law_is_so) = true
  f__law_run : Fun K "_law_run" "_law_run" s__law_run a.a__law_run a.d__law_run
  b__law_run : Binds K a.d__law_run ["statements", "row", "names"] []
  mg__law_run : mg "_law_run" = some (.ref a.a__law_run)
  kp__law_run : PySem.W.keepIn K (.ref a.a__law_run) = true
  f__law_due : Fun K "_law_due" "_law_due" s__law_due a.a__law_due a.d__law_due
  b__law_due : Binds K a.d__law_due ["statements", "row"] []
  mg__law_due : mg "_law_due" = some (.ref a.a__law_due)
  kp__law_due : PySem.W.keepIn K (.ref a.a__law_due) = true
  f__law_row : Fun K "_law_row" "_law_row" s__law_row a.a__law_row a.d__law_row
  b__law_row : Binds K a.d__law_row ["hand", "pool", "loops"] []
  mg__law_row : mg "_law_row" = some (.ref a.a__law_row)
  kp__law_row : PySem.W.keepIn K (.ref a.a__law_row) = true
  f__law_long : Fun K "_law_long" "_law_long" s__law_long a.a__law_long a.d__law_long
  b__law_long : Binds K a.d__law_long ["hand"] []
  mg__law_long : mg "_law_long" = some (.ref a.a__law_long)
  kp__law_long : PySem.W.keepIn K (.ref a.a__law_long) = true
  f__law_small : Fun K "_law_small" "_law_small" s__law_small a.a__law_small a.d__law_small
  b__law_small : Binds K a.d__law_small ["hand", "words"] []
  mg__law_small : mg "_law_small" = some (.ref a.a__law_small)
  kp__law_small : PySem.W.keepIn K (.ref a.a__law_small) = true
  f__law_is_small_right : Fun K "_law_is_small_right" "_law_is_small_right" s__law_is_small_right a.a__law_is_small_right a.d__law_is_small_right
  b__law_is_small_right : Binds K a.d__law_is_small_right ["hand"] []
  mg__law_is_small_right : mg "_law_is_small_right" = some (.ref a.a__law_is_small_right)
  kp__law_is_small_right : PySem.W.keepIn K (.ref a.a__law_is_small_right) = true
  f_law : Fun K "law" "law" s_law a.a_law a.d_law
  b_law : Binds K a.d_law ["script"] []
  mg_law : mg "law" = some (.ref a.a_law)
  kp_law : PySem.W.keepIn K (.ref a.a_law) = true
  mg_Program : mg "Program" = some (.ref a.c_Program)
  mk_Program : Mk K a.c_Program a.a_Program___init__
  me_Program_word : Meth K a.c_Program "word" a.a_Program_word
  eq_Program : PySem.W.findIn K (.ref a.c_Program) "__eq__" = some (some (.ref a.a_Program___eq__))
  eqf_Program : PySem.W.isFn K (.ref a.a_Program___eq__) = true
  cl : ∀ c, Cls K ((gm K a).cls c)
  insTy : ∀ c, InsTy (gm K a) c
  na_row : ∀ c, NoAttr K ((gm K a).cls c) "row"
  na_statements : ∀ c, NoAttr K ((gm K a).cls c) "statements"
  unl : Unlike (gm K a) 1
  apt : Apart (gm K a) 1
  mgx_BadHouse : mg "BadHouse" = some (.ref a.c_BadHouse)
  oex_BadHouse : OexC K a.c_BadHouse
  xf_BadHouse : XfC K a.c_BadHouse
  ini_BadHouse : PySem.W.findIn K (.ref a.c_BadHouse) "__init__" = some (some (.ref a.a_BadHouse___init__))
  tyf_BadHouse : PySem.W.typeIn K (.ref a.a_BadHouse___init__) = some (.type "function")
  nof_BadHouse : PySem.W.findIn K (.ref a.c_BadHouse) "row" = some none
  k_ALONE : ∃ p, mg "ALONE" = some (.ref p) ∧ ∀ F, Rep (gm K a) F (.tup [.str "many", .str "last"]) (.ref p)
  k_STATEMENTS : ∃ p, mg "STATEMENTS" = some (.ref p) ∧ KTab (gm K a) w p tb_STATEMENTS
  k_EXPRESSIONS : ∃ p, mg "EXPRESSIONS" = some (.ref p) ∧ KTab (gm K a) w p tb_EXPRESSIONS
  k_CONDITIONS : ∃ p, mg "CONDITIONS" = some (.ref p) ∧ KTab (gm K a) w p tb_CONDITIONS
  k_MOST_SIGNS : ∃ u, mg "MOST_SIGNS" = some u ∧ RelV (.int 40) u
  k_MOST_WORDS : ∃ u, mg "MOST_WORDS" = some u ∧ RelV (.int 400) u
  k_MOST_DEEP : ∃ u, mg "MOST_DEEP" = some u ∧ RelV (.int 20) u
  k_MOST_EACH : ∃ u, mg "MOST_EACH" = some u ∧ RelV (.int 2) u
  k_MOST_PARTS : ∃ u, mg "MOST_PARTS" = some u ∧ RelV (.int 500) u
  k_MOST_LETTERS : ∃ u, mg "MOST_LETTERS" = some u ∧ RelV (.int 8) u
  k_LETTERS : ∃ u, mg "LETTERS" = some u ∧ RelV (.str "abcdefghijklmnopqrstuvwxyz") u
  k_STATEMENT : ∃ u, mg "STATEMENT" = some u ∧ RelV (.str "statement") u
  k_EXPRESSION : ∃ u, mg "EXPRESSION" = some u ∧ RelV (.str "e") u
  k_CONDITION : ∃ u, mg "CONDITION" = some u ∧ RelV (.str "c") u
  k_NAME : ∃ u, mg "NAME" = some u ∧ RelV (.str "name") u
  k_WORD : ∃ u, mg "WORD" = some u ∧ RelV (.str "word") u
  k_BODY : ∃ u, mg "BODY" = some u ∧ RelV (.str "body") u
  b_all : mg "all" = none
  b_bool : mg "bool" = none
  b_int : mg "int" = none
  b_isinstance : mg "isinstance" = none
  b_len : mg "len" = none
  b_list : mg "list" = none
  b_range : mg "range" = none
  b_str : mg "str" = none
  b_tuple : mg "tuple" = none
  b_zip : mg "zip" = none
section
variable {P : Program} {w : World} {K : PySem.W.Frag} {mg : Str → Option Value} {a : Adr}
theorem sc_is_sized : FnScope N_is_sized ["thing", "low", "high"] (defScope s_is_sized) := ⟨rfl, rfl, rfl, by decide +kernel, rfl, by decide +kernel, by decide +kernel⟩
theorem ok_is_sized (T : Txt w K mg a) (base : Heap) : FnOk P w K mg base (L2.CX P w) 1 a.a_is_sized a.d_is_sized ["thing", "low", "high"] (spF (gm K a) 3 sem_is_sized) := by
  refine fn_ok T.f_is_sized sc_is_sized body_is_sized 3 rfl 3 rfl fun cdv A outer sh H E hr => ?_
  have tk : Takes (cxOf (L2.CX P w) P w K mg base N_is_sized "is_sized" (defScope s_is_sized) a.a_is_sized cdv A outer sh H E) (fun cls d _ H => E cls d H) := takes_of rfl rfl rfl rfl
  exact fss_one (fs_ret (fe_and (pe_and (fe_opL (opL_isi _ T.insTy T.unl) (pe_callB call_isi (by rfl) T.b_isinstance (by decide +kernel) (fa_cons (fo_pk (pv 0)) (fa_cons (fo_val (fe_c (pe_bltn (v := .ty "tuple") (u := .type "tuple") (by rfl) T.b_tuple (by decide +kernel) rfl) (.ty "tuple") (fun _ => rfl))) (fa_nil))))) (pe_one (fe_chain (op2_le _) (op2_le _) (pe_chain opr_le opr_le (fo_pk (pv 1)) (fo_val (fe_opL (opL_len _) (pe_callB callr_len (by rfl) T.b_len (by decide +kernel) (fa_cons (fo_pk (pv 0)) (fa_nil))))) (fo_pk (pv 2))))))))
theorem sc_are_signs : FnScope N_are_signs ["thing"] (defScope s_are_signs) := ⟨rfl, rfl, rfl, by decide +kernel, rfl, by decide +kernel, by decide +kernel⟩
theorem ok_are_signs (T : Txt w K mg a) (base : Heap) : FnOk P w K mg base (L2.CX P w) 1 a.a_are_signs a.d_are_signs ["thing"] (spF (gm K a) 1 sem_are_signs) := by
  refine fn_ok T.f_are_signs sc_are_signs body_are_signs 1 rfl 2 rfl fun cdv A outer sh H E hr => ?_
  have tk : Takes (cxOf (L2.CX P w) P w K mg base N_are_signs "are_signs" (defScope s_are_signs) a.a_are_signs cdv A outer sh H E) (fun cls d _ H => E cls d H) := takes_of rfl rfl rfl rfl
  exact fss_one (fs_ret (fe_and (pe_and (fe_opL (opL_isi _ T.insTy T.unl) (pe_callB call_isi (by rfl) T.b_isinstance (by decide +kernel) (fa_cons (fo_pk (pv 0)) (fa_cons (fo_val (fe_c (pe_bltn (v := .ty "str") (u := .type "str") (by rfl) T.b_str (by decide +kernel) rfl) (.ty "str") (fun _ => rfl))) (fa_nil))))) (pe_one (fe_opL (opL_all _) (pe_callB (cr_all rfl) (by rfl) T.b_all (by decide +kernel) (fa_cons (fo_val (fe_fn (fn_lc (pe_lc (own := [("sign", 1)]) rfl sc_are_signs.nd (fi_any rfl (pi_any (fe_var (pv 0)))) (blkOk_by (N := N_are_signs) (sc := defScope s_are_signs) (by decide +kernel)) (fun _ _ _ _ _ => fgv_name (by decide) (pg_name (i := 1) sc_are_signs.nd rfl (Or.inl rfl))) (fun _ _ _ _ _ => fts_nil) (fun _ _ _ _ _ => fe_chain (op2_le _) (op2_le _) (pe_chain opr_le opr_le (fo_val (fe_c pe_str (.str " ") (fun _ => rfl))) (fo_pk (pv 1)) (fo_val (fe_c pe_str (.str "~") (fun _ => rfl))))))))) (fa_nil))))))))
theorem sc_BadHouse___init__ : FnScope N_BadHouse___init__ ["self", "row"] (defScope s_BadHouse___init__) := ⟨rfl, rfl, rfl, by decide +kernel, rfl, by decide +kernel, by decide +kernel⟩
theorem ok_BadHouse___init__ (T : Txt w K mg a) (base : Heap) : FnOk P w K mg base (L2.CX P w) 1 a.a_BadHouse___init__ a.d_BadHouse___init__ ["self", "row"] (spI K "row") := by
  exact T.f_BadHouse___init__.okX sc_BadHouse___init__ (fun vs H Q E h => spI_len h) fun cdv A outer sh H vs Q E hr h => ⟨_, pss_one (ps_ost (pv 0) (pv 1)), init_read h⟩
theorem sc_is_name : FnScope N_is_name ["thing"] (defScope s_is_name) := ⟨rfl, rfl, rfl, by decide +kernel, rfl, by decide +kernel, by decide +kernel⟩
theorem ok_is_name (T : Txt w K mg a) (base : Heap) : FnOk P w K mg base (L2.CX P w) 1 a.a_is_name a.d_is_name ["thing"] (spF (gm K a) 1 sem_is_name) := by
  obtain ⟨u_ALONE, m_ALONE, r_ALONE⟩ := T.k_ALONE
  obtain ⟨u_LETTERS, m_LETTERS, r_LETTERS⟩ := T.k_LETTERS
  obtain ⟨u_MOST_LETTERS, m_MOST_LETTERS, r_MOST_LETTERS⟩ := T.k_MOST_LETTERS
  refine fn_ok T.f_is_name sc_is_name body_is_name 1 rfl 2 rfl fun cdv A outer sh H E hr => ?_
  have tk : Takes (cxOf (L2.CX P w) P w K mg base N_is_name "is_name" (defScope s_is_name) a.a_is_name cdv A outer sh H E) (fun cls d _ H => E cls d H) := takes_of rfl rfl rfl rfl
  exact fss_cons (fs_if (PW.pt (fw_or (ft_not (ft_val (pt_val (fe_opL (opL_isi _ T.insTy T.unl) (pe_callB call_isi (by rfl) T.b_isinstance (by decide +kernel) (fa_cons (fo_pk (pv 0)) (fa_cons (fo_val (fe_c (pe_bltn (v := .ty "str") (u := .type "str") (by rfl) T.b_str (by decide +kernel) rfl) (.ty "str") (fun _ => rfl))) (fa_nil)))))))) (fw_or (ft_not (ft_chain (op2_le _) (op2_le _) (pt_chain opr_le opr_le (fo_val (fe_c pe_int (.int 1) (fun _ => rfl))) (fo_val (fe_opL (opL_len _) (pe_callB callr_len (by rfl) T.b_len (by decide +kernel) (fa_cons (fo_pk (pv 0)) (fa_nil))))) (fo_val (fe_c (pe_glob (v := .int 8) (by rfl) m_MOST_LETTERS r_MOST_LETTERS) (.int 8) (fun _ => rfl)))))) (fw_or1 (ft_op2 (op2_in _) (pt_cmpR (opr_in (units65 hr)) (fo_pk (pv 0)) (fo_val (fe_c (pe_glob (v := .ref u_ALONE) (by rfl) m_ALONE rfl) (.tup [.str "many", .str "last"]) r_ALONE)) (by rfl))))))) (fss_one (fs_ret (fe_c pe_bl (.bl false) (fun _ => rfl)))) (fss_nil)) (fss_one (fs_ret (fe_opL (opL_all _) (pe_callB (cr_all rfl) (by rfl) T.b_all (by decide +kernel) (fa_cons (fo_val (fe_fn (fn_lc (pe_lc (own := [("sign", 1)]) rfl sc_is_name.nd (fi_any rfl (pi_any (fe_var (pv 0)))) (blkOk_by (N := N_is_name) (sc := defScope s_is_name) (by decide +kernel)) (fun _ _ _ _ _ => fgv_name (by decide) (pg_name (i := 1) sc_is_name.nd rfl (Or.inl rfl))) (fun _ _ _ _ _ => fts_nil) (fun _ _ _ _ _ => fe_op2 (op2_in _) (pe_cmpR (opr_in (units65 hr)) (fo_pk (pv 1)) (fo_val (fe_c (pe_glob (v := .str "abcdefghijklmnopqrstuvwxyz") (by rfl) m_LETTERS r_LETTERS) (.str "abcdefghijklmnopqrstuvwxyz") (fun _ => rfl))) (by rfl))))))) (fa_nil))))))
theorem sc_sorts_of : FnScope N_sorts_of ["sort", "word"] (defScope s_sorts_of) := ⟨rfl, rfl, rfl, by decide +kernel, rfl, by decide +kernel, by decide +kernel⟩
theorem ok_sorts_of (T : Txt w K mg a) (base : Heap) : FnOk P w K mg base (L2.CX P w) 1 a.a_sorts_of a.d_sorts_of ["sort", "word"] (spF (gm K a) 2 sem_sorts_of) := by
  obtain ⟨u_CONDITIONS, m_CONDITIONS, r_CONDITIONS⟩ := T.k_CONDITIONS
  obtain ⟨u_EXPRESSION, m_EXPRESSION, r_EXPRESSION⟩ := T.k_EXPRESSION
  obtain ⟨u_EXPRESSIONS, m_EXPRESSIONS, r_EXPRESSIONS⟩ := T.k_EXPRESSIONS
  obtain ⟨u_STATEMENT, m_STATEMENT, r_STATEMENT⟩ := T.k_STATEMENT
  obtain ⟨u_STATEMENTS, m_STATEMENTS, r_STATEMENTS⟩ := T.k_STATEMENTS
  refine fn_ok T.f_sorts_of sc_sorts_of body_sorts_of 2 rfl 2 rfl fun cdv A outer sh H E hr => ?_
  have tk : Takes (cxOf (L2.CX P w) P w K mg base N_sorts_of "sorts_of" (defScope s_sorts_of) a.a_sorts_of cdv A outer sh H E) (fun cls d _ H => E cls d H) := takes_of rfl rfl rfl rfl
  exact fss_cons (fs_if (ft_op2 (op2_eq _) (pt_cmpR (op_eqD hr.units) (fo_pk (pv 0)) (fo_val (fe_c (pe_glob (v := .str "statement") (by rfl) m_STATEMENT r_STATEMENT) (.str "statement") (fun _ => rfl))) (nomark _))) (fss_one (fs_ret (fe_kget (pe_kget rfl r_STATEMENTS (pe_glob (v := .ref u_STATEMENTS) (by rfl) m_STATEMENTS rfl) (fe_var (pv 1)) ⟨by rfl, by rfl, by rfl, by rfl⟩)))) (fss_nil)) (fss_one (fs_ret (fe_if (ft_op2 (op2_eq _) (pt_cmpR (op_eqD hr.units) (fo_pk (pv 0)) (fo_val (fe_c (pe_glob (v := .str "e") (by rfl) m_EXPRESSION r_EXPRESSION) (.str "e") (fun _ => rfl))) (nomark _))) (fe_kget (pe_kget rfl r_EXPRESSIONS (pe_glob (v := .ref u_EXPRESSIONS) (by rfl) m_EXPRESSIONS rfl) (fe_var (pv 1)) ⟨by rfl, by rfl, by rfl, by rfl⟩)) (fe_kget (pe_kget rfl r_CONDITIONS (pe_glob (v := .ref u_CONDITIONS) (by rfl) m_CONDITIONS rfl) (fe_var (pv 1)) ⟨by rfl, by rfl, by rfl, by rfl⟩)))))
theorem sc_within : FnScope N_within ["body", "deep", "eaches"] (defScope s_within) := ⟨rfl, rfl, rfl, by decide +kernel, rfl, by decide +kernel, by decide +kernel⟩
theorem ok_within (T : Txt w K mg a) (base : Heap) : FnOk P w K mg base (L2.CX P w) 1 a.a_within a.d_within ["body", "deep", "eaches"] (spF (gm K a) 3 sem_within) := by
  obtain ⟨u_STATEMENT, m_STATEMENT, r_STATEMENT⟩ := T.k_STATEMENT
  refine fn_ok T.f_within sc_within body_within 3 rfl 4 rfl fun cdv A outer sh H E hr => ?_
  have tk : Takes (cxOf (L2.CX P w) P w K mg base N_within "within" (defScope s_within) a.a_within cdv A outer sh H E) (fun cls d _ H => E cls d H) := takes_of rfl rfl rfl rfl
  exact fss_cons (fs_if (ft_not (ft_val (pt_val (fe_opL (opL_isi _ T.insTy T.unl) (pe_callB call_isi (by rfl) T.b_isinstance (by decide +kernel) (fa_cons (fo_pk (pv 0)) (fa_cons (fo_val (fe_c (pe_bltn (v := .ty "tuple") (u := .type "tuple") (by rfl) T.b_tuple (by decide +kernel) rfl) (.ty "tuple") (fun _ => rfl))) (fa_nil)))))))) (fss_one (fs_ret (fe_c pe_non .non (fun _ => rfl)))) (fss_nil)) (fss_one (fs_retN (fn_lc (pe_lc (own := [("one", 3)]) rfl sc_within.nd (fi_any rfl (pi_any (fe_var (pv 0)))) (blkOk_by (N := N_within) (sc := defScope s_within) (by decide +kernel)) (fun _ _ _ _ _ => fgv_name (by decide) (pg_name (i := 3) sc_within.nd rfl (Or.inl rfl))) (fun _ _ _ _ _ => fts_nil) (fun _ _ _ _ _ => fe_tup (pe_tup (fa_cons (fo_val (fe_c (pe_glob (v := .str "statement") (by rfl) m_STATEMENT r_STATEMENT) (.str "statement") (fun _ => rfl))) (fa_cons (fo_val (fe_var (pv 3))) (fa_cons (fo_val (fe_var (pv 1))) (fa_cons (fo_val (fe_var (pv 2))) (fa_nil)))))))))))
theorem sc_told : FnScope N_told ["expression", "row", "meanings"] (defScope s_told) := ⟨rfl, rfl, rfl, by decide +kernel, rfl, by decide +kernel, by decide +kernel⟩
theorem okS_told (T : Txt w K mg a) (base : Heap) (m : Nat) (ih : FnOk P w K mg base (L2.CX P w) (1 + m) a.a_told a.d_told ["expression", "row", "meanings"] (spF (gm K a) 3 (sem_told m))) : FnOk P w K mg base (L2.CX P w) (1 + m + 1) a.a_told a.d_told ["expression", "row", "meanings"] (spF (gm K a) 3 (sem_told (m + 1))) := by
  obtain ⟨u_MOST_SIGNS, m_MOST_SIGNS, r_MOST_SIGNS⟩ := T.k_MOST_SIGNS
  refine fn_ok (k := 1 + m) T.f_told sc_told (body_told (sem_told m)) 3 rfl 5 rfl fun cdv A outer sh H E hr => ?_
  have tk : Takes (cxOf (L2.CX P w) P w K mg base N_told "told" (defScope s_told) a.a_told cdv A outer sh H E) (fun cls d _ H => E cls d H) := takes_of rfl rfl rfl rfl
  exact fss_cons (fs_set (ps_set (i := 3) sc_told.nd rfl (Or.inl rfl) (fe_op2 (op2_ix _) (pe_ix ix_seq (fo_pk (pv 0)) (fo_val (fe_c pe_int (.int 0) (fun _ => rfl))) (fun _ _ => rfl))))) (fss_cons (fs_if (ft_op2 (op2_eq _) (pt_cmpR (op_eqD hr.units) (fo_pk (pv 3)) (fo_val (fe_c pe_str (.str "text") (fun _ => rfl))) (nomark _))) (fss_one (fs_ret (fe_op2 (op2_ix _) (pe_ix ix_seq (fo_pk (pv 0)) (fo_val (fe_c pe_int (.int 1) (fun _ => rfl))) (fun _ _ => rfl))))) (fss_nil)) (fss_cons (fs_if (ft_op2 (op2_eq _) (pt_cmpR (op_eqD hr.units) (fo_pk (pv 3)) (fo_val (fe_c pe_str (.str "name") (fun _ => rfl))) (nomark _))) (fss_one (fs_ret (fe_get2 (unit1 hr.units) (fo_pk (pv 2)) (fe_op2 (op2_ix _) (pe_ix ix_seq (fo_pk (pv 0)) (fo_val (fe_c pe_int (.int 1) (fun _ => rfl))) (fun _ _ => rfl))) (fe_c pe_str (.str "") (fun _ => rfl)) ⟨by rfl, by rfl, by rfl, by rfl⟩))) (fss_nil)) (fss_cons (fs_if (ft_op2 (op2_eq _) (pt_cmpR (op_eqD hr.units) (fo_pk (pv 3)) (fo_val (fe_c pe_str (.str "many") (fun _ => rfl))) (nomark _))) (fss_one (fs_ret (fe_opL (opL_str _) (pe_callTy call_str_int (by rfl) T.b_str (by decide +kernel) (fa_cons (fo_val (fe_opL (opL_len _) (pe_callB callr_len (by rfl) T.b_len (by decide +kernel) (fa_cons (fo_pk (pv 1)) (fa_nil))))) (fa_nil)))))) (fss_nil)) (fss_cons (fs_if (ft_op2 (op2_eq _) (pt_cmpR (op_eqD hr.units) (fo_pk (pv 3)) (fo_val (fe_c pe_str (.str "last") (fun _ => rfl))) (nomark _))) (fss_one (fs_ret (fe_if (ft_op2 (op2_gt _) (pt_cmpR opr_gt (fo_val (fe_opL (opL_len _) (pe_callB callr_len (by rfl) T.b_len (by decide +kernel) (fa_cons (fo_pk (pv 1)) (fa_nil))))) (fo_val (fe_c pe_int (.int 0) (fun _ => rfl))) (nomark _))) (fe_op2 (op2_ix _) (pe_ix ix_seq (fo_pk (pv 1)) (fo_val (fe_neg (pe_un un_neg (fe_c pe_int (.int 1) (fun _ => rfl))))) (fun _ _ => rfl))) (fe_c pe_str (.str "") (fun _ => rfl))))) (fss_nil)) (fss_cons (fs_set (ps_set (i := 4) sc_told.nd rfl (Or.inl rfl) (fe_call (pe_callS ih (hr.mono (by omega)) (by rfl) T.mg_told T.kp_told T.b_told (fun σ => passAt tk σ) (fa_cons (fo_val (fe_op2 (op2_ix _) (pe_ix ix_seq (fo_pk (pv 0)) (fo_val (fe_c pe_int (.int 1) (fun _ => rfl))) (fun _ _ => rfl)))) (fa_cons (fo_val (fe_var (pv 1))) (fa_cons (fo_pk (pv 2)) (fa_nil))))) rfl))) (fss_cons (fs_if (ft_op2 (op2_eq _) (pt_cmpR (op_eqD hr.units) (fo_pk (pv 3)) (fo_val (fe_c pe_str (.str "join") (fun _ => rfl))) (nomark _))) (fss_one (fs_ret (fe_sl rfl (pe_slice slr_all (fo_val (fe_op2 (op2_add _) (pe_op opr_add (fo_pk (pv 4)) (fo_val (fe_call (pe_callS ih (hr.mono (by omega)) (by rfl) T.mg_told T.kp_told T.b_told (fun σ => passAt tk σ) (fa_cons (fo_val (fe_op2 (op2_ix _) (pe_ix ix_seq (fo_pk (pv 0)) (fo_val (fe_c pe_int (.int 2) (fun _ => rfl))) (fun _ _ => rfl)))) (fa_cons (fo_val (fe_var (pv 1))) (fa_cons (fo_pk (pv 2)) (fa_nil))))) rfl))))) (fp_none) (fp_some (fe_c (pe_glob (v := .int 40) (by rfl) m_MOST_SIGNS r_MOST_SIGNS) (.int 40) (fun _ => rfl))))))) (fss_nil)) (fss_cons (fs_if (ft_op2 (op2_eq _) (pt_cmpR (op_eqD hr.units) (fo_pk (pv 3)) (fo_val (fe_c pe_str (.str "turn") (fun _ => rfl))) (nomark _))) (fss_one (fs_ret (fe_revS (pe_revS (fe_var (pv 4)))))) (fss_nil)) (fss_one (fs_ret (fe_if (ft_op2 (op2_eq _) (pt_cmpR (op_eqD hr.units) (fo_pk (pv 3)) (fo_val (fe_c pe_str (.str "rest") (fun _ => rfl))) (nomark _))) (fe_sl rfl (pe_slice slr_all (fo_pk (pv 4)) (fp_some (fe_c pe_int (.int 1) (fun _ => rfl))) (fp_none))) (fe_sl rfl (pe_slice slr_all (fo_pk (pv 4)) (fp_none) (fp_some (fe_c pe_int (.int 1) (fun _ => rfl)))))))))))))))
theorem ok_told (T : Txt w K mg a) (base : Heap) : ∀ n, FnOk P w K mg base (L2.CX P w) (1 + n) a.a_told a.d_told ["expression", "row", "meanings"] (spF (gm K a) 3 (sem_told n))
  | 0 => fn0_ok 3 rfl
  | m + 1 => okS_told T base m (ok_told T base m)
theorem sc_Program___eq__ : FnScope N_Program___eq__ ["self", "thing"] (defScope s_Program___eq__) := ⟨rfl, rfl, rfl, by decide +kernel, rfl, by decide +kernel, by decide +kernel⟩
theorem ok_Program___eq__ (T : Txt w K mg a) (base : Heap) : FnOk P w K mg base (L2.CX P w) 1 a.a_Program___eq__ a.d_Program___eq__ ["self", "thing"] (spF (gm K a) 2 sem_Program___eq__) := by
  refine fn_ok T.f_Program___eq__ sc_Program___eq__ body_Program___eq__ 2 rfl 2 rfl fun cdv A outer sh H E hr => ?_
  have tk : Takes (cxOf (L2.CX P w) P w K mg base N_Program___eq__ "Program.__eq__" (defScope s_Program___eq__) a.a_Program___eq__ cdv A outer sh H E) (fun cls d _ H => E cls d H) := takes_of rfl rfl rfl rfl
  exact fss_one (fs_ret (fe_and (pe_and (fe_opL (opL_isi _ T.insTy T.unl) (pe_callB call_isi (by rfl) T.b_isinstance (by decide +kernel) (fa_cons (fo_pk (pv 1)) (fa_cons (fo_val (fe_c (pe_glob (v := .ref a.c_Program) (by rfl) T.mg_Program rfl) (.cls 0) (fun _ => rfl))) (fa_nil))))) (pe_one (fe_op2 (op2_eq _) (pe_cmpR (op_eqD hr.units) (fo_val (fe_fld rfl T.cl (T.na_statements) (pe_fld (fo_pk (pv 0)) rfl))) (fo_val (fe_fld rfl T.cl (T.na_statements) (pe_fld (fo_pk (pv 1)) rfl))) (nomark _)))))))
theorem sc__law_hand : FnScope N__law_hand ["script"] (defScope s__law_hand) := ⟨rfl, rfl, rfl, by decide +kernel, rfl, by decide +kernel, by decide +kernel⟩
theorem ok__law_hand (T : Txt w K mg a) (base : Heap) : FnOk P w K mg base (L2.CX P w) 1 a.a__law_hand a.d__law_hand ["script"] (spF (gm K a) 1 sem__law_hand) := by
  refine fn_ok T.f__law_hand sc__law_hand body__law_hand 1 rfl 2 rfl fun cdv A outer sh H E hr => ?_
  have tk : Takes (cxOf (L2.CX P w) P w K mg base N__law_hand "_law_hand" (defScope s__law_hand) a.a__law_hand cdv A outer sh H E) (fun cls d _ H => E cls d H) := takes_of rfl rfl rfl rfl
  exact fss_one (fs_retN (fn_lst (pe_lst (fa_cons (fo_val (fe_fn (fn_lc (pe_lc (own := [("cell", 1)]) rfl sc__law_hand.nd (fi_any rfl (pi_any (fe_sl rfl (pe_slice slr_all (fo_pk (pv 0)) (fp_none) (fp_some (fe_c pe_int (.int 63) (fun _ => rfl))))))) (blkOk_by (N := N__law_hand) (sc := defScope s__law_hand) (by decide +kernel)) (fun _ _ _ _ _ => fgv_name (by decide) (pg_name (i := 1) sc__law_hand.nd rfl (Or.inl rfl))) (fun _ _ _ _ _ => fts_nil) (fun _ _ _ _ _ => fe_opL (opL_int _) (pe_callTy call_int1 (by rfl) T.b_int (by decide +kernel) (fa_cons (fo_pk (pv 1)) (fa_nil)))))))) (fa_cons (fo_val (fe_c pe_int (.int 0) (fun _ => rfl))) (fa_cons (fo_val (fe_c pe_int (.int 0) (fun _ => rfl))) (fa_cons (fo_val (fe_c pe_int (.int 1187) (fun _ => rfl))) (fa_cons (fo_val (fe_c pe_int (.int 0) (fun _ => rfl))) (fa_nil)))))))))
theorem sc__law_draw : FnScope N__law_draw ["hand", "many"] (defScope s__law_draw) := ⟨rfl, rfl, rfl, by decide +kernel, rfl, by decide +kernel, by decide +kernel⟩
theorem ok__law_draw (T : Txt w K mg a) (base : Heap) : FnOk P w K mg base (L2.CX P w) 1 a.a__law_draw a.d__law_draw ["hand", "many"] (spF (gm K a) 2 sem__law_draw) := by
  refine fn_ok T.f__law_draw sc__law_draw body__law_draw 2 rfl 5 rfl fun cdv A outer sh H E hr => ?_
  have tk : Takes (cxOf (L2.CX P w) P w K mg base N__law_draw "_law_draw" (defScope s__law_draw) a.a__law_draw cdv A outer sh H E) (fun cls d _ H => E cls d H) := takes_of rfl rfl rfl rfl
  exact fss_cons (fs_if (PW.pt (fw_and (ft_op2 (op2_eq _) (pt_cmpR (op_eqD hr.units) (fo_val (fe_op2 (op2_ix _) (pe_ix ix_seq (fo_pk (pv 0)) (fo_val (fe_c pe_int (.int 2) (fun _ => rfl))) (fun _ _ => rfl)))) (fo_val (fe_c pe_int (.int 0) (fun _ => rfl))) (nomark _))) (fw_and1 (ft_op2 (op2_lt _) (pt_cmpR (opr_lt hr.units) (fo_val (fe_op2 (op2_ix _) (pe_ix ix_seq (fo_pk (pv 0)) (fo_val (fe_c pe_int (.int 1) (fun _ => rfl))) (fun _ _ => rfl)))) (fo_val (fe_opL (opL_len _) (pe_callB callr_len (by rfl) T.b_len (by decide +kernel) (fa_cons (fo_val (fe_op2 (op2_ix _) (pe_ix ix_seq (fo_pk (pv 0)) (fo_val (fe_c pe_int (.int 0) (fun _ => rfl))) (fun _ _ => rfl)))) (fa_nil))))) (nomark _)))))) (fss_cons (fs_set (ps_set (i := 3) sc__law_draw.nd rfl (Or.inl rfl) (fe_op2 (op2_ix _) (pe_ix ix_seq (fo_val (fe_op2 (op2_ix _) (pe_ix ix_seq (fo_pk (pv 0)) (fo_val (fe_c pe_int (.int 0) (fun _ => rfl))) (fun _ _ => rfl)))) (fo_val (fe_op2 (op2_ix _) (pe_ix ix_seq (fo_pk (pv 0)) (fo_val (fe_c pe_int (.int 1) (fun _ => rfl))) (fun _ _ => rfl)))) (fun _ _ => rfl))))) (fss_cons (fs_setIx (ps_asg (fe_op2 (op2_add _) (pe_op opr_add (fo_val (fe_op2 (op2_ix _) (pe_ix ix_seq (fo_pk (pv 0)) (fo_val (fe_c pe_int (.int 1) (fun _ => rfl))) (fun _ _ => rfl)))) (fo_val (fe_c pe_int (.int 1) (fun _ => rfl))))) (pg_sub (fo_pk (pv 0)) (fe_c pe_int (.int 1) (fun _ => rfl)) set_list))) (fss_cons (fs_setIx (ps_asg (fe_op2 (op2_mod _) (pe_op op_mod (fo_val (fe_opL (opL_int _) (pe_callTy call_int1 (by rfl) T.b_int (by decide +kernel) (fa_cons (fo_val (fe_op2 (op2_add _) (pe_op opr_add (fo_val (fe_op2 (op2_add _) (pe_op opr_add (fo_val (fe_op2 (op2_mul _) (pe_op opr_mul (fo_val (fe_op2 (op2_ix _) (pe_ix ix_seq (fo_pk (pv 0)) (fo_val (fe_c pe_int (.int 3) (fun _ => rfl))) (fun _ _ => rfl)))) (fo_val (fe_c pe_int (.int 69653) (fun _ => rfl)))))) (fo_val (fe_op2 (op2_mul _) (pe_op opr_mul (fo_pk (pv 3)) (fo_val (fe_c pe_int (.int 32) (fun _ => rfl))))))))) (fo_val (fe_c pe_int (.int 19) (fun _ => rfl)))))) (fa_nil))))) (fo_val (fe_c pe_int (.int 2147483629) (fun _ => rfl))))) (pg_sub (fo_pk (pv 0)) (fe_c pe_int (.int 3) (fun _ => rfl)) set_list))) (fss_one (fs_if (ft_op2 (op2_ge _) (pt_cmpR opr_ge (fo_pk (pv 3)) (fo_val (fe_op2 (op2_pow _) (pe_op op_pow (fo_val (fe_c pe_int (.int 10) (fun _ => rfl))) (fo_val (fe_c pe_int (.int 18) (fun _ => rfl)))))) (nomark _))) (fss_one (fs_setIx (ps_asg (fe_var (pv 3)) (pg_sub (fo_pk (pv 0)) (fe_c pe_int (.int 2) (fun _ => rfl)) set_list)))) (fss_nil)))))) (fss_nil)) (fss_cons (fs_if (ft_op2 (op2_gt _) (pt_cmpR opr_gt (fo_val (fe_op2 (op2_ix _) (pe_ix ix_seq (fo_pk (pv 0)) (fo_val (fe_c pe_int (.int 2) (fun _ => rfl))) (fun _ _ => rfl)))) (fo_val (fe_c pe_int (.int 0) (fun _ => rfl))) (nomark _))) (fss_cons (fs_set (ps_set (i := 4) sc__law_draw.nd rfl (Or.inl rfl) (fe_op2 (op2_mod _) (pe_op op_mod (fo_val (fe_opL (opL_int _) (pe_callTy call_int1 (by rfl) T.b_int (by decide +kernel) (fa_cons (fo_val (fe_op2 (op2_ix _) (pe_ix ix_seq (fo_pk (pv 0)) (fo_val (fe_c pe_int (.int 2) (fun _ => rfl))) (fun _ _ => rfl)))) (fa_nil))))) (fo_pk (pv 1)))))) (fss_cons (fs_setIx (ps_asg (fe_op2 (op2_div _) (pe_op op_fdiv (fo_val (fe_op2 (op2_ix _) (pe_ix ix_seq (fo_pk (pv 0)) (fo_val (fe_c pe_int (.int 2) (fun _ => rfl))) (fun _ _ => rfl)))) (fo_pk (pv 1)))) (pg_sub (fo_pk (pv 0)) (fe_c pe_int (.int 2) (fun _ => rfl)) set_list))) (fss_one (fs_ret (fe_var (pv 4)))))) (fss_nil)) (fss_cons (fs_setIx (ps_asg (fe_op2 (op2_add _) (pe_op opr_add (fo_val (fe_op2 (op2_ix _) (pe_ix ix_seq (fo_pk (pv 0)) (fo_val (fe_c pe_int (.int 4) (fun _ => rfl))) (fun _ _ => rfl)))) (fo_val (fe_c pe_int (.int 1) (fun _ => rfl))))) (pg_sub (fo_pk (pv 0)) (fe_c pe_int (.int 4) (fun _ => rfl)) set_list))) (fss_cons (fs_set (ps_set (i := 2) sc__law_draw.nd rfl (Or.inl rfl) (fe_op2 (op2_mod _) (pe_op op_mod (fo_val (fe_opL (opL_int _) (pe_callTy call_int1 (by rfl) T.b_int (by decide +kernel) (fa_cons (fo_val (fe_op2 (op2_mul _) (pe_op opr_mul (fo_val (fe_op2 (op2_add _) (pe_op opr_add (fo_val (fe_op2 (op2_ix _) (pe_ix ix_seq (fo_pk (pv 0)) (fo_val (fe_c pe_int (.int 3) (fun _ => rfl))) (fun _ _ => rfl)))) (fo_val (fe_op2 (op2_mul _) (pe_op opr_mul (fo_val (fe_c pe_int (.int 6271) (fun _ => rfl))) (fo_val (fe_op2 (op2_ix _) (pe_ix ix_seq (fo_pk (pv 0)) (fo_val (fe_c pe_int (.int 4) (fun _ => rfl))) (fun _ _ => rfl)))))))))) (fo_val (fe_c pe_int (.int 48673) (fun _ => rfl)))))) (fa_nil))))) (fo_val (fe_c pe_int (.int 2147483647) (fun _ => rfl))))))) (fss_cons (fs_set (ps_set (i := 2) sc__law_draw.nd rfl (Or.inl rfl) (fe_op2 (op2_mod _) (pe_op op_mod (fo_val (fe_opL (opL_int _) (pe_callTy call_int1 (by rfl) T.b_int (by decide +kernel) (fa_cons (fo_val (fe_op2 (op2_mul _) (pe_op opr_mul (fo_pk (pv 2)) (fo_val (fe_op2 (op2_add _) (pe_op opr_add (fo_val (fe_op2 (op2_div _) (pe_op op_fdiv (fo_pk (pv 2)) (fo_val (fe_c pe_int (.int 1013) (fun _ => rfl)))))) (fo_val (fe_c pe_int (.int 69997) (fun _ => rfl))))))))) (fa_nil))))) (fo_val (fe_c pe_int (.int 2147483647) (fun _ => rfl))))))) (fss_cons (fs_set (ps_set (i := 2) sc__law_draw.nd rfl (Or.inl rfl) (fe_op2 (op2_mod _) (pe_op op_mod (fo_val (fe_opL (opL_int _) (pe_callTy call_int1 (by rfl) T.b_int (by decide +kernel) (fa_cons (fo_val (fe_op2 (op2_mul _) (pe_op opr_mul (fo_pk (pv 2)) (fo_val (fe_op2 (op2_add _) (pe_op opr_add (fo_val (fe_op2 (op2_div _) (pe_op op_fdiv (fo_pk (pv 2)) (fo_val (fe_c pe_int (.int 2011) (fun _ => rfl)))))) (fo_val (fe_c pe_int (.int 40709) (fun _ => rfl))))))))) (fa_nil))))) (fo_val (fe_c pe_int (.int 2147483399) (fun _ => rfl))))))) (fss_one (fs_ret (fe_op2 (op2_mod _) (pe_op op_mod (fo_val (fe_opL (opL_int _) (pe_callTy call_int1 (by rfl) T.b_int (by decide +kernel) (fa_cons (fo_val (fe_op2 (op2_div _) (pe_op op_fdiv (fo_pk (pv 2)) (fo_val (fe_c pe_int (.int 32) (fun _ => rfl)))))) (fa_nil))))) (fo_pk (pv 1)))))))))))
theorem sc__law_is : FnScope N__law_is ["told_v", "due"] (defScope s__law_is) := ⟨rfl, rfl, rfl, by decide +kernel, rfl, by decide +kernel, by decide +kernel⟩
theorem okS__law_is (T : Txt w K mg a) (base : Heap) (m : Nat) (ih : FnOk P w K mg base (L2.CX P w) (1 + m) a.a__law_is a.d__law_is ["told_v", "due"] (spF (gm K a) 2 (sem__law_is m))) : FnOk P w K mg base (L2.CX P w) (1 + m + 1) a.a__law_is a.d__law_is ["told_v", "due"] (spF (gm K a) 2 (sem__law_is (m + 1))) := by
  refine fn_ok (k := 1 + m) T.f__law_is sc__law_is (body__law_is (sem__law_is m)) 2 rfl 4 rfl fun cdv A outer sh H E hr => ?_
  have tk : Takes (cxOf (L2.CX P w) P w K mg base N__law_is "_law_is" (defScope s__law_is) a.a__law_is cdv A outer sh H E) (fun cls d _ H => E cls d H) := takes_of rfl rfl rfl rfl
  exact fss_cons (fs_if (ft_val (pt_val (fe_isiT T.insTy rfl (pe_callB call_isiT (by rfl) T.b_isinstance (by decide +kernel) (pa_cons (fo_pk (pv 1)) (pa_cons (pe_tup (fa_cons (fo_val (fe_c (pe_bltn (v := .ty "tuple") (u := .type "tuple") (by rfl) T.b_tuple (by decide +kernel) rfl) (.ty "tuple") (fun _ => rfl))) (fa_cons (fo_val (fe_c (pe_bltn (v := .ty "list") (u := .type "list") (by rfl) T.b_list (by decide +kernel) rfl) (.ty "list") (fun _ => rfl))) (fa_nil)))) pa_nil)))))) (fss_cons (fs_if (PW.pt (fw_or (ft_op2 (op2_ne _) (pt_cmpR (op_neD hr.units) (fo_val (fe_opL (opL_isi _ T.insTy T.unl) (pe_callB call_isi (by rfl) T.b_isinstance (by decide +kernel) (fa_cons (fo_pk (pv 0)) (fa_cons (fo_val (fe_c (pe_bltn (v := .ty "tuple") (u := .type "tuple") (by rfl) T.b_tuple (by decide +kernel) rfl) (.ty "tuple") (fun _ => rfl))) (fa_nil)))))) (fo_val (fe_opL (opL_isi _ T.insTy T.unl) (pe_callB call_isi (by rfl) T.b_isinstance (by decide +kernel) (fa_cons (fo_pk (pv 1)) (fa_cons (fo_val (fe_c (pe_bltn (v := .ty "tuple") (u := .type "tuple") (by rfl) T.b_tuple (by decide +kernel) rfl) (.ty "tuple") (fun _ => rfl))) (fa_nil)))))) (nomark _))) (fw_or1 (ft_not (ft_val (pt_val (fe_isiT T.insTy rfl (pe_callB call_isiT (by rfl) T.b_isinstance (by decide +kernel) (pa_cons (fo_pk (pv 0)) (pa_cons (pe_tup (fa_cons (fo_val (fe_c (pe_bltn (v := .ty "tuple") (u := .type "tuple") (by rfl) T.b_tuple (by decide +kernel) rfl) (.ty "tuple") (fun _ => rfl))) (fa_cons (fo_val (fe_c (pe_bltn (v := .ty "list") (u := .type "list") (by rfl) T.b_list (by decide +kernel) rfl) (.ty "list") (fun _ => rfl))) (fa_nil)))) pa_nil)))))))))) (fss_one (fs_ret (fe_c pe_bl (.bl false) (fun _ => rfl)))) (fss_nil)) (fss_one (fs_ret (fe_and (pe_and (fe_op2 (op2_eq _) (pe_cmpR (op_eqD hr.units) (fo_val (fe_opL (opL_len _) (pe_callB callr_len (by rfl) T.b_len (by decide +kernel) (fa_cons (fo_pk (pv 0)) (fa_nil))))) (fo_val (fe_opL (opL_len _) (pe_callB callr_len (by rfl) T.b_len (by decide +kernel) (fa_cons (fo_pk (pv 1)) (fa_nil))))) (nomark _))) (pe_one (fe_opL (opL_all _) (pe_callB (cr_all rfl) (by rfl) T.b_all (by decide +kernel) (fa_cons (fo_val (fe_fn (fn_lc (pe_lc (own := [("one", 2), ("two", 3)]) rfl sc__law_is.nd (fi_zip rfl (RZ.pi_zipA (by rfl) T.b_zip (fa_cons (fo_val (fe_var (pv 0))) (fa_cons (fo_val (fe_var (pv 1))) (fa_nil))))) (blkOk_by (N := N__law_is) (sc := defScope s__law_is) (by decide +kernel)) (fun _ _ _ _ _ => fgv_tup rfl (fgvs_cons (fgv_name (by decide) (pg_name (i := 2) sc__law_is.nd rfl (Or.inl rfl))) (fgvs_cons (fgv_name (by decide) (pg_name (i := 3) sc__law_is.nd rfl (Or.inl rfl))) (fgvs_nil))) rfl) (fun _ _ _ _ _ => fts_nil) (fun _ _ _ _ _ => fe_call (pe_callS ih (hr.mono (by omega)) (by rfl) T.mg__law_is T.kp__law_is T.b__law_is (fun σ => passAt takes0 σ) (fa_cons (fo_val (fe_var (pv 2))) (fa_cons (fo_val (fe_var (pv 3))) (fa_nil)))) rfl))))) (fa_nil)))))))))) (fss_nil)) (fss_one (fs_ret (fe_and (pe_and (fe_op2 (op2_eq _) (pe_cmpR (op_eqD hr.units) (fo_val (fe_opL (opL_isi _ T.insTy T.unl) (pe_callB call_isi (by rfl) T.b_isinstance (by decide +kernel) (fa_cons (fo_pk (pv 0)) (fa_cons (fo_val (fe_c (pe_bltn (v := .ty "bool") (u := .type "bool") (by rfl) T.b_bool (by decide +kernel) rfl) (.ty "bool") (fun _ => rfl))) (fa_nil)))))) (fo_val (fe_opL (opL_isi _ T.insTy T.unl) (pe_callB call_isi (by rfl) T.b_isinstance (by decide +kernel) (fa_cons (fo_pk (pv 1)) (fa_cons (fo_val (fe_c (pe_bltn (v := .ty "bool") (u := .type "bool") (by rfl) T.b_bool (by decide +kernel) rfl) (.ty "bool") (fun _ => rfl))) (fa_nil)))))) (nomark _))) (pe_one (fe_op2 (op2_eq _) (pe_cmpR (op_eqD hr.units) (fo_pk (pv 0)) (fo_pk (pv 1)) (nomark _))))))))
theorem ok__law_is (T : Txt w K mg a) (base : Heap) : ∀ n, FnOk P w K mg base (L2.CX P w) (1 + n) a.a__law_is a.d__law_is ["told_v", "due"] (spF (gm K a) 2 (sem__law_is n))
  | 0 => fn0_ok 2 rfl
  | m + 1 => okS__law_is T base m (ok__law_is T base m)
theorem sc__law_signs : FnScope N__law_signs [] (defScope s__law_signs) := ⟨rfl, rfl, rfl, by decide +kernel, rfl, by decide +kernel, by decide +kernel⟩
theorem ok__law_signs (T : Txt w K mg a) (base : Heap) : FnOk P w K mg base (L2.CX P w) 1 a.a__law_signs a.d__law_signs [] (spF (gm K a) 0 sem__law_signs) := by
  refine fn_ok T.f__law_signs sc__law_signs body__law_signs 0 rfl 1 rfl fun cdv A outer sh H E hr => ?_
  have tk : Takes (cxOf (L2.CX P w) P w K mg base N__law_signs "_law_signs" (defScope s__law_signs) a.a__law_signs cdv A outer sh H E) (fun cls d _ H => E cls d H) := takes_of rfl rfl rfl rfl
  exact fss_cons (fs_set (ps_set (i := 0) sc__law_signs.nd rfl (Or.inl rfl) (fe_c pe_str (.str " !\"#$&'()*+,-./0123456789:;<=>?@ABCDEFGHIJKLMNOPQRSTUVWXYZ[\\]^_`") (fun _ => rfl)))) (fss_one (fs_ret (fe_op2 (op2_add _) (pe_op opr_add (fo_pk (pv 0)) (fo_val (fe_c pe_str (.str "abcdefghijklmnopqrstuvwxyz{|}~") (fun _ => rfl)))))))
theorem sc__law_value : FnScope N__law_value ["e", "row", "names"] (defScope s__law_value) := ⟨rfl, rfl, rfl, by decide +kernel, rfl, by decide +kernel, by decide +kernel⟩
theorem okS__law_value (T : Txt w K mg a) (base : Heap) (m : Nat) (ih : FnOk P w K mg base (L2.CX P w) (1 + m) a.a__law_value a.d__law_value ["e", "row", "names"] (spF (gm K a) 3 (sem__law_value m))) : FnOk P w K mg base (L2.CX P w) (1 + m + 1) a.a__law_value a.d__law_value ["e", "row", "names"] (spF (gm K a) 3 (sem__law_value (m + 1))) := by
  refine fn_ok (k := 1 + m) T.f__law_value sc__law_value (body__law_value (sem__law_value m)) 3 rfl 5 rfl fun cdv A outer sh H E hr => ?_
  have tk : Takes (cxOf (L2.CX P w) P w K mg base N__law_value "_law_value" (defScope s__law_value) a.a__law_value cdv A outer sh H E) (fun cls d _ H => E cls d H) := takes_of rfl rfl rfl rfl
  exact fss_cons (fs_if (ft_op2 (op2_eq _) (pt_cmpR (op_eqD hr.units) (fo_val (fe_op2 (op2_ix _) (pe_ix ix_seq (fo_pk (pv 0)) (fo_val (fe_c pe_int (.int 0) (fun _ => rfl))) (fun _ _ => rfl)))) (fo_val (fe_c pe_str (.str "text") (fun _ => rfl))) (nomark _))) (fss_one (fs_ret (fe_op2 (op2_ix _) (pe_ix ix_seq (fo_pk (pv 0)) (fo_val (fe_c pe_int (.int 1) (fun _ => rfl))) (fun _ _ => rfl))))) (fss_nil)) (fss_cons (fs_if (ft_op2 (op2_eq _) (pt_cmpR (op_eqD hr.units) (fo_val (fe_op2 (op2_ix _) (pe_ix ix_seq (fo_pk (pv 0)) (fo_val (fe_c pe_int (.int 0) (fun _ => rfl))) (fun _ _ => rfl)))) (fo_val (fe_c pe_str (.str "name") (fun _ => rfl))) (nomark _))) (fss_one (fs_ret (fe_get2 (unit1 hr.units) (fo_pk (pv 2)) (fe_op2 (op2_ix _) (pe_ix ix_seq (fo_pk (pv 0)) (fo_val (fe_c pe_int (.int 1) (fun _ => rfl))) (fun _ _ => rfl))) (fe_c pe_str (.str "") (fun _ => rfl)) ⟨by rfl, by rfl, by rfl, by rfl⟩))) (fss_nil)) (fss_cons (fs_if (ft_op2 (op2_eq _) (pt_cmpR (op_eqD hr.units) (fo_val (fe_op2 (op2_ix _) (pe_ix ix_seq (fo_pk (pv 0)) (fo_val (fe_c pe_int (.int 0) (fun _ => rfl))) (fun _ _ => rfl)))) (fo_val (fe_c pe_str (.str "many") (fun _ => rfl))) (nomark _))) (fss_one (fs_ret (fe_opL (opL_str _) (pe_callTy call_str_int (by rfl) T.b_str (by decide +kernel) (fa_cons (fo_val (fe_opL (opL_len _) (pe_callB callr_len (by rfl) T.b_len (by decide +kernel) (fa_cons (fo_pk (pv 1)) (fa_nil))))) (fa_nil)))))) (fss_nil)) (fss_cons (fs_if (ft_op2 (op2_eq _) (pt_cmpR (op_eqD hr.units) (fo_val (fe_op2 (op2_ix _) (pe_ix ix_seq (fo_pk (pv 0)) (fo_val (fe_c pe_int (.int 0) (fun _ => rfl))) (fun _ _ => rfl)))) (fo_val (fe_c pe_str (.str "last") (fun _ => rfl))) (nomark _))) (fss_one (fs_ret (fe_if (ft_op2 (op2_gt _) (pt_cmpR opr_gt (fo_val (fe_opL (opL_len _) (pe_callB callr_len (by rfl) T.b_len (by decide +kernel) (fa_cons (fo_pk (pv 1)) (fa_nil))))) (fo_val (fe_c pe_int (.int 0) (fun _ => rfl))) (nomark _))) (fe_op2 (op2_ix _) (pe_ix ix_seq (fo_pk (pv 1)) (fo_val (fe_neg (pe_un un_neg (fe_c pe_int (.int 1) (fun _ => rfl))))) (fun _ _ => rfl))) (fe_c pe_str (.str "") (fun _ => rfl))))) (fss_nil)) (fss_cons (fs_set (ps_set (i := 3) sc__law_value.nd rfl (Or.inr rfl) (fe_call (pe_callS ih (hr.mono (by omega)) (by rfl) T.mg__law_value T.kp__law_value T.b__law_value (fun σ => passAt tk σ) (fa_cons (fo_val (fe_op2 (op2_ix _) (pe_ix ix_seq (fo_pk (pv 0)) (fo_val (fe_c pe_int (.int 1) (fun _ => rfl))) (fun _ _ => rfl)))) (fa_cons (fo_val (fe_var (pv 1))) (fa_cons (fo_pk (pv 2)) (fa_nil))))) rfl))) (fss_cons (fs_if (ft_op2 (op2_eq _) (pt_cmpR (op_eqD hr.units) (fo_val (fe_op2 (op2_ix _) (pe_ix ix_seq (fo_pk (pv 0)) (fo_val (fe_c pe_int (.int 0) (fun _ => rfl))) (fun _ _ => rfl)))) (fo_val (fe_c pe_str (.str "join") (fun _ => rfl))) (nomark _))) (fss_one (fs_ret (fe_sl rfl (pe_slice slr_all (fo_val (fe_op2 (op2_add _) (pe_op opr_add (fo_pk (pv 3)) (fo_val (fe_call (pe_callS ih (hr.mono (by omega)) (by rfl) T.mg__law_value T.kp__law_value T.b__law_value (fun σ => passAt tk σ) (fa_cons (fo_val (fe_op2 (op2_ix _) (pe_ix ix_seq (fo_pk (pv 0)) (fo_val (fe_c pe_int (.int 2) (fun _ => rfl))) (fun _ _ => rfl)))) (fa_cons (fo_val (fe_var (pv 1))) (fa_cons (fo_pk (pv 2)) (fa_nil))))) rfl))))) (fp_none) (fp_some (fe_c pe_int (.int 40) (fun _ => rfl))))))) (fss_nil)) (fss_cons (fs_if (ft_op2 (op2_eq _) (pt_cmpR (op_eqD hr.units) (fo_val (fe_op2 (op2_ix _) (pe_ix ix_seq (fo_pk (pv 0)) (fo_val (fe_c pe_int (.int 0) (fun _ => rfl))) (fun _ _ => rfl)))) (fo_val (fe_c pe_str (.str "turn") (fun _ => rfl))) (nomark _))) (fss_one (fs_ret (fe_join rfl (pe_join (fo_val (fe_c pe_str (.str "") (fun _ => rfl))) (fo_val (fe_fn (fn_lc (pe_lc (own := [("k", 4)]) rfl sc__law_value.nd (fi_range1 (pi_range1 (by rfl) T.b_range (fa_cons (fo_val (fe_opL (opL_len _) (pe_callB callr_len (by rfl) T.b_len (by decide +kernel) (fa_cons (fo_pk (pv 3)) (fa_nil))))) (fa_nil)))) (blkOk_by (N := N__law_value) (sc := defScope s__law_value) (by decide +kernel)) (fun _ _ _ _ _ => fgv_name (by decide) (pg_name (i := 4) sc__law_value.nd rfl (Or.inl rfl))) (fun _ _ _ _ _ => fts_nil) (fun _ _ _ _ _ => fe_op2 (op2_ix _) (pe_ix ix_seq (fo_pk (pv 3)) (fo_val (fe_op2 (op2_sub _) (pe_op op_sub (fo_val (fe_op2 (op2_sub _) (pe_op op_sub (fo_val (fe_opL (opL_len _) (pe_callB callr_len (by rfl) T.b_len (by decide +kernel) (fa_cons (fo_pk (pv 3)) (fa_nil))))) (fo_val (fe_c pe_int (.int 1) (fun _ => rfl)))))) (fo_pk (pv 4))))) (fun _ _ => rfl))))))))))) (fss_nil)) (fss_cons (fs_if (ft_op2 (op2_eq _) (pt_cmpR (op_eqD hr.units) (fo_val (fe_op2 (op2_ix _) (pe_ix ix_seq (fo_pk (pv 0)) (fo_val (fe_c pe_int (.int 0) (fun _ => rfl))) (fun _ _ => rfl)))) (fo_val (fe_c pe_str (.str "rest") (fun _ => rfl))) (nomark _))) (fss_one (fs_ret (fe_sl rfl (pe_slice slr_all (fo_pk (pv 3)) (fp_some (fe_c pe_int (.int 1) (fun _ => rfl))) (fp_none))))) (fss_nil)) (fss_one (fs_ret (fe_sl rfl (pe_slice slr_all (fo_pk (pv 3)) (fp_none) (fp_some (fe_c pe_int (.int 1) (fun _ => rfl))))))))))))))
theorem ok__law_value (T : Txt w K mg a) (base : Heap) : ∀ n, FnOk P w K mg base (L2.CX P w) (1 + n) a.a__law_value a.d__law_value ["e", "row", "names"] (spF (gm K a) 3 (sem__law_value n))
  | 0 => fn0_ok 3 rfl
  | m + 1 => okS__law_value T base m (ok__law_value T base m)
theorem sc_is_word : FnScope N_is_word ["thing"] (defScope s_is_word) := ⟨rfl, rfl, rfl, by decide +kernel, rfl, by decide +kernel, by decide +kernel⟩
theorem ok_is_word (T : Txt w K mg a) (base : Heap) : FnOk P w K mg base (L2.CX P w) 2 a.a_is_word a.d_is_word ["thing"] (spF (gm K a) 1 sem_is_word) := by
  obtain ⟨u_MOST_SIGNS, m_MOST_SIGNS, r_MOST_SIGNS⟩ := T.k_MOST_SIGNS
  refine fn_ok T.f_is_word sc_is_word body_is_word 1 rfl 1 rfl fun cdv A outer sh H E hr => ?_
  have tk : Takes (cxOf (L2.CX P w) P w K mg base N_is_word "is_word" (defScope s_is_word) a.a_is_word cdv A outer sh H E) (fun cls d _ H => E cls d H) := takes_of rfl rfl rfl rfl
  exact fss_one (fs_ret (fe_and (pe_and (fe_call (pe_callS (ok_are_signs T base) (hr.mono (by decide)) (by rfl) T.mg_are_signs T.kp_are_signs T.b_are_signs (fun σ => passAt tk σ) (fa_cons (fo_val (fe_var (pv 0))) (fa_nil))) rfl) (pe_one (fe_op2 (op2_le _) (pe_cmpR opr_le (fo_val (fe_opL (opL_len _) (pe_callB callr_len (by rfl) T.b_len (by decide +kernel) (fa_cons (fo_pk (pv 0)) (fa_nil))))) (fo_val (fe_c (pe_glob (v := .int 40) (by rfl) m_MOST_SIGNS r_MOST_SIGNS) (.int 40) (fun _ => rfl))) (nomark _)))))))
theorem sc_parts_of : FnScope N_parts_of ["sort", "thing"] (defScope s_parts_of) := ⟨rfl, rfl, rfl, by decide +kernel, rfl, by decide +kernel, by decide +kernel⟩
theorem ok_parts_of (T : Txt w K mg a) (base : Heap) : FnOk P w K mg base (L2.CX P w) 2 a.a_parts_of a.d_parts_of ["sort", "thing"] (spF (gm K a) 2 sem_parts_of) := by
  refine fn_ok T.f_parts_of sc_parts_of body_parts_of 2 rfl 3 rfl fun cdv A outer sh H E hr => ?_
  have tk : Takes (cxOf (L2.CX P w) P w K mg base N_parts_of "parts_of" (defScope s_parts_of) a.a_parts_of cdv A outer sh H E) (fun cls d _ H => E cls d H) := takes_of rfl rfl rfl rfl
  exact fss_cons (fs_if (PW.pt (fw_or (ft_not (ft_val (pt_val (fe_opL (opL_isi _ T.insTy T.unl) (pe_callB call_isi (by rfl) T.b_isinstance (by decide +kernel) (fa_cons (fo_pk (pv 1)) (fa_cons (fo_val (fe_c (pe_bltn (v := .ty "tuple") (u := .type "tuple") (by rfl) T.b_tuple (by decide +kernel) rfl) (.ty "tuple") (fun _ => rfl))) (fa_nil)))))))) (fw_or (ft_op2 (op2_eq _) (pt_cmpR (op_eqD hr.units) (fo_val (fe_opL (opL_len _) (pe_callB callr_len (by rfl) T.b_len (by decide +kernel) (fa_cons (fo_pk (pv 1)) (fa_nil))))) (fo_val (fe_c pe_int (.int 0) (fun _ => rfl))) (nomark _))) (fw_or1 (ft_not (ft_val (pt_val (fe_opL (opL_isi _ T.insTy T.unl) (pe_callB call_isi (by rfl) T.b_isinstance (by decide +kernel) (fa_cons (fo_val (fe_op2 (op2_ix _) (pe_ix ix_seq (fo_pk (pv 1)) (fo_val (fe_c pe_int (.int 0) (fun _ => rfl))) (fun _ _ => rfl)))) (fa_cons (fo_val (fe_c (pe_bltn (v := .ty "str") (u := .type "str") (by rfl) T.b_str (by decide +kernel) rfl) (.ty "str") (fun _ => rfl))) (fa_nil)))))))))))) (fss_one (fs_ret (fe_c pe_non .non (fun _ => rfl)))) (fss_nil)) (fss_cons (fs_set (ps_set (i := 2) sc_parts_of.nd rfl (Or.inl rfl) (fe_call (pe_callS (ok_sorts_of T base) (hr.mono (by decide)) (by rfl) T.mg_sorts_of T.kp_sorts_of T.b_sorts_of (fun σ => passAt tk σ) (fa_cons (fo_val (fe_var (pv 0))) (fa_cons (fo_val (fe_op2 (op2_ix _) (pe_ix ix_seq (fo_pk (pv 1)) (fo_val (fe_c pe_int (.int 0) (fun _ => rfl))) (fun _ _ => rfl)))) (fa_nil)))) rfl))) (fss_cons (fs_if (PW.pt (fw_or (ft_op2 (op2_isN _) (pt_cmpR op_isN (fo_pk (pv 2)) (fo_val (fe_c pe_non .non (fun _ => rfl))) (nomark _))) (fw_or1 (ft_op2 (op2_ne _) (pt_cmpR (op_neD hr.units) (fo_val (fe_opL (opL_len _) (pe_callB callr_len (by rfl) T.b_len (by decide +kernel) (fa_cons (fo_pk (pv 1)) (fa_nil))))) (fo_val (fe_op2 (op2_add _) (pe_op opr_add (fo_val (fe_opL (opL_len _) (pe_callB callr_len (by rfl) T.b_len (by decide +kernel) (fa_cons (fo_pk (pv 2)) (fa_nil))))) (fo_val (fe_c pe_int (.int 1) (fun _ => rfl)))))) (nomark _)))))) (fss_one (fs_ret (fe_c pe_non .non (fun _ => rfl)))) (fss_nil)) (fss_one (fs_ret (fe_fn (fn_lzip rfl (FLZ.pe_listZip rfl (fa_cons (fo_val (fe_var (pv 2))) (fa_cons (fo_val (fe_sl rfl (pe_slice slr_all (fo_pk (pv 1)) (fp_some (fe_c pe_int (.int 1) (fun _ => rfl))) (fp_none)))) (fa_nil))) (by rfl) T.b_list (by rfl) T.b_zip)))))))
theorem sc__law_pick : FnScope N__law_pick ["hand", "things"] (defScope s__law_pick) := ⟨rfl, rfl, rfl, by decide +kernel, rfl, by decide +kernel, by decide +kernel⟩
theorem ok__law_pick (T : Txt w K mg a) (base : Heap) : FnOk P w K mg base (L2.CX P w) 2 a.a__law_pick a.d__law_pick ["hand", "things"] (spF (gm K a) 2 sem__law_pick) := by
  refine fn_ok T.f__law_pick sc__law_pick body__law_pick 2 rfl 2 rfl fun cdv A outer sh H E hr => ?_
  have tk : Takes (cxOf (L2.CX P w) P w K mg base N__law_pick "_law_pick" (defScope s__law_pick) a.a__law_pick cdv A outer sh H E) (fun cls d _ H => E cls d H) := takes_of rfl rfl rfl rfl
  exact fss_one (fs_ret (fe_op2 (op2_ix _) (pe_ix ix_seq (fo_pk (pv 1)) (fo_val (fe_call (pe_callS (ok__law_draw T base) (hr.mono (by decide)) (by rfl) T.mg__law_draw T.kp__law_draw T.b__law_draw (fun σ => passAt tk σ) (fa_cons (fo_pk (pv 0)) (fa_cons (fo_val (fe_opL (opL_len _) (pe_callB callr_len (by rfl) T.b_len (by decide +kernel) (fa_cons (fo_pk (pv 1)) (fa_nil))))) (fa_nil)))) rfl)) (fun _ _ => rfl))))
theorem sc_is_row : FnScope N_is_row ["thing"] (defScope s_is_row) := ⟨rfl, rfl, rfl, by decide +kernel, rfl, by decide +kernel, by decide +kernel⟩
theorem ok_is_row (T : Txt w K mg a) (base : Heap) : FnOk P w K mg base (L2.CX P w) 3 a.a_is_row a.d_is_row ["thing"] (spF (gm K a) 1 sem_is_row) := by
  obtain ⟨u_MOST_WORDS, m_MOST_WORDS, r_MOST_WORDS⟩ := T.k_MOST_WORDS
  refine fn_ok T.f_is_row sc_is_row body_is_row 1 rfl 2 rfl fun cdv A outer sh H E hr => ?_
  have tk : Takes (cxOf (L2.CX P w) P w K mg base N_is_row "is_row" (defScope s_is_row) a.a_is_row cdv A outer sh H E) (fun cls d _ H => E cls d H) := takes_of rfl rfl rfl rfl
  exact fss_one (fs_ret (fe_and (pe_and (fe_call (pe_callS (ok_is_sized T base) (hr.mono (by decide)) (by rfl) T.mg_is_sized T.kp_is_sized T.b_is_sized (fun σ => passAt tk σ) (fa_cons (fo_val (fe_var (pv 0))) (fa_cons (fo_val (fe_c pe_int (.int 0) (fun _ => rfl))) (fa_cons (fo_val (fe_c (pe_glob (v := .int 400) (by rfl) m_MOST_WORDS r_MOST_WORDS) (.int 400) (fun _ => rfl))) (fa_nil))))) rfl) (pe_one (fe_opL (opL_all _) (pe_callB (cr_all rfl) (by rfl) T.b_all (by decide +kernel) (fa_cons (fo_val (fe_fn (fn_lc (pe_lc (own := [("one", 1)]) rfl sc_is_row.nd (fi_any rfl (pi_any (fe_var (pv 0)))) (blkOk_by (N := N_is_row) (sc := defScope s_is_row) (by decide +kernel)) (fun _ _ _ _ _ => fgv_name (by decide) (pg_name (i := 1) sc_is_row.nd rfl (Or.inl rfl))) (fun _ _ _ _ _ => fts_nil) (fun _ _ _ _ _ => fe_call (pe_callS (ok_is_word T base) (hr.mono (by decide)) (by rfl) T.mg_is_word T.kp_is_word T.b_is_word (fun σ => passAt takes0 σ) (fa_cons (fo_val (fe_var (pv 1))) (fa_nil))) rfl))))) (fa_nil))))))))
theorem sc_is_leaf_right : FnScope N_is_leaf_right ["sort", "thing"] (defScope s_is_leaf_right) := ⟨rfl, rfl, rfl, by decide +kernel, rfl, by decide +kernel, by decide +kernel⟩
theorem ok_is_leaf_right (T : Txt w K mg a) (base : Heap) : FnOk P w K mg base (L2.CX P w) 3 a.a_is_leaf_right a.d_is_leaf_right ["sort", "thing"] (spF (gm K a) 2 sem_is_leaf_right) := by
  obtain ⟨u_NAME, m_NAME, r_NAME⟩ := T.k_NAME
  refine fn_ok T.f_is_leaf_right sc_is_leaf_right body_is_leaf_right 2 rfl 2 rfl fun cdv A outer sh H E hr => ?_
  have tk : Takes (cxOf (L2.CX P w) P w K mg base N_is_leaf_right "is_leaf_right" (defScope s_is_leaf_right) a.a_is_leaf_right cdv A outer sh H E) (fun cls d _ H => E cls d H) := takes_of rfl rfl rfl rfl
  exact fss_one (fs_ret (fe_if (ft_op2 (op2_eq _) (pt_cmpR (op_eqD hr.units) (fo_pk (pv 0)) (fo_val (fe_c (pe_glob (v := .str "name") (by rfl) m_NAME r_NAME) (.str "name") (fun _ => rfl))) (nomark _))) (fe_call (pe_callS (ok_is_name T base) (hr.mono (by decide)) (by rfl) T.mg_is_name T.kp_is_name T.b_is_name (fun σ => passAt tk σ) (fa_cons (fo_val (fe_var (pv 1))) (fa_nil))) rfl) (fe_call (pe_callS (ok_is_word T base) (hr.mono (by decide)) (by rfl) T.mg_is_word T.kp_is_word T.b_is_word (fun σ => passAt tk σ) (fa_cons (fo_val (fe_var (pv 1))) (fa_nil))) rfl)))
theorem sc_within_part : FnScope N_within_part ["sort", "thing", "deep", "eaches"] (defScope s_within_part) := ⟨rfl, rfl, rfl, by decide +kernel, rfl, by decide +kernel, by decide +kernel⟩
theorem ok_within_part (T : Txt w K mg a) (base : Heap) : FnOk P w K mg base (L2.CX P w) 3 a.a_within_part a.d_within_part ["sort", "thing", "deep", "eaches"] (spF (gm K a) 4 sem_within_part) := by
  obtain ⟨u_MOST_DEEP, m_MOST_DEEP, r_MOST_DEEP⟩ := T.k_MOST_DEEP
  obtain ⟨u_MOST_EACH, m_MOST_EACH, r_MOST_EACH⟩ := T.k_MOST_EACH
  obtain ⟨u_STATEMENT, m_STATEMENT, r_STATEMENT⟩ := T.k_STATEMENT
  refine fn_ok T.f_within_part sc_within_part body_within_part 4 rfl 8 rfl fun cdv A outer sh H E hr => ?_
  have tk : Takes (cxOf (L2.CX P w) P w K mg base N_within_part "within_part" (defScope s_within_part) a.a_within_part cdv A outer sh H E) (fun cls d _ H => E cls d H) := takes_of rfl rfl rfl rfl
  exact fss_cons (fs_set (ps_set (i := 4) sc_within_part.nd rfl (Or.inl rfl) (fe_call (pe_callS (ok_parts_of T base) (hr.mono (by decide)) (by rfl) T.mg_parts_of T.kp_parts_of T.b_parts_of (fun σ => passAt tk σ) (fa_cons (fo_val (fe_var (pv 0))) (fa_cons (fo_val (fe_var (pv 1))) (fa_nil)))) rfl))) (fss_cons (fs_if (PW.pt (fw_or (ft_op2 (op2_gt _) (pt_cmpR opr_gt (fo_pk (pv 2)) (fo_val (fe_c (pe_glob (v := .int 20) (by rfl) m_MOST_DEEP r_MOST_DEEP) (.int 20) (fun _ => rfl))) (nomark _))) (fw_or1 (ft_op2 (op2_isN _) (pt_cmpR op_isN (fo_pk (pv 4)) (fo_val (fe_c pe_non .non (fun _ => rfl))) (nomark _)))))) (fss_one (fs_ret (fe_c pe_non .non (fun _ => rfl)))) (fss_nil)) (fss_cons (fs_set (ps_set (i := 5) sc_within_part.nd rfl (Or.inr rfl) (fe_op2 (op2_add _) (pe_op opr_add (fo_pk (pv 3)) (fo_val (fe_opL (opL_int _) (pe_callTy call_int1 (by rfl) T.b_int (by decide +kernel) (fa_cons (fo_val (fe_and (pe_and (fe_op2 (op2_eq _) (pe_cmpR (op_eqD hr.units) (fo_pk (pv 0)) (fo_val (fe_c (pe_glob (v := .str "statement") (by rfl) m_STATEMENT r_STATEMENT) (.str "statement") (fun _ => rfl))) (nomark _))) (pe_one (fe_op2 (op2_eq _) (pe_cmpR (op_eqD hr.units) (fo_val (fe_op2 (op2_ix _) (pe_ix ix_seq (fo_pk (pv 1)) (fo_val (fe_c pe_int (.int 0) (fun _ => rfl))) (fun _ _ => rfl)))) (fo_val (fe_c pe_str (.str "each") (fun _ => rfl))) (nomark _))))))) (fa_nil))))))))) (fss_cons (fs_if (ft_op2 (op2_gt _) (pt_cmpR opr_gt (fo_pk (pv 5)) (fo_val (fe_c (pe_glob (v := .int 2) (by rfl) m_MOST_EACH r_MOST_EACH) (.int 2) (fun _ => rfl))) (nomark _))) (fss_one (fs_ret (fe_c pe_non .non (fun _ => rfl)))) (fss_nil)) (fss_one (fs_ret (fe_fn (fn_lc (pe_lc (own := [("kind", 6), ("part", 7)]) rfl sc_within_part.nd (fi_any rfl (pi_any (fe_var (pv 4)))) (blkOk_by (N := N_within_part) (sc := defScope s_within_part) (by decide +kernel)) (fun _ _ _ _ _ => fgv_tup rfl (fgvs_cons (fgv_name (by decide) (pg_name (i := 6) sc_within_part.nd rfl (Or.inl rfl))) (fgvs_cons (fgv_name (by decide) (pg_name (i := 7) sc_within_part.nd rfl (Or.inl rfl))) (fgvs_nil))) rfl) (fun _ _ _ _ _ => fts_nil) (fun _ _ _ _ _ => fe_tup (pe_tup (fa_cons (fo_val (fe_var (pv 6))) (fa_cons (fo_val (fe_var (pv 7))) (fa_cons (fo_val (fe_op2 (op2_add _) (pe_op opr_add (fo_pk (pv 2)) (fo_val (fe_c pe_int (.int 1) (fun _ => rfl)))))) (fa_cons (fo_val (fe_var (pv 5))) (fa_nil)))))))))))))))
theorem sc__law_word : FnScope N__law_word ["hand"] (defScope s__law_word) := ⟨rfl, rfl, rfl, by decide +kernel, rfl, by decide +kernel, by decide +kernel⟩
theorem ok__law_word (T : Txt w K mg a) (base : Heap) : FnOk P w K mg base (L2.CX P w) 3 a.a__law_word a.d__law_word ["hand"] (spF (gm K a) 1 sem__law_word) := by
  refine fn_ok T.f__law_word sc__law_word body__law_word 1 rfl 4 rfl fun cdv A outer sh H E hr => ?_
  have tk : Takes (cxOf (L2.CX P w) P w K mg base N__law_word "_law_word" (defScope s__law_word) a.a__law_word cdv A outer sh H E) (fun cls d _ H => E cls d H) := takes_of rfl rfl rfl rfl
  exact fss_cons (fs_set (ps_set (i := 1) sc__law_word.nd rfl (Or.inl rfl) (fe_call (pe_callS (ok__law_draw T base) (hr.mono (by decide)) (by rfl) T.mg__law_draw T.kp__law_draw T.b__law_draw (fun σ => passAt tk σ) (fa_cons (fo_pk (pv 0)) (fa_cons (fo_val (fe_c pe_int (.int 8) (fun _ => rfl))) (fa_nil)))) rfl))) (fss_cons (fs_if (ft_op2 (op2_lt _) (pt_cmpR (opr_lt hr.units) (fo_pk (pv 1)) (fo_val (fe_c pe_int (.int 4) (fun _ => rfl))) (nomark _))) (fss_one (fs_ret (fe_op2 (op2_ix _) (pe_ix ix_seq (fo_val (fe_fn (fn_lst (pe_lst (fa_cons (fo_val (fe_c pe_str (.str "") (fun _ => rfl))) (fa_cons (fo_val (fe_c pe_str (.str "a") (fun _ => rfl))) (fa_cons (fo_val (fe_c pe_str (.str "b") (fun _ => rfl))) (fa_cons (fo_val (fe_c pe_str (.str "ab") (fun _ => rfl))) (fa_nil))))))))) (fo_pk (pv 1)) (fun _ _ => rfl))))) (fss_nil)) (fss_cons (fs_set (ps_set (i := 2) sc__law_word.nd rfl (Or.inr rfl) (fe_call0 (pe_callS0 (ok__law_signs T base) (hr.mono (by decide)) (by rfl) T.mg__law_signs T.kp__law_signs T.b__law_signs (fun σ => passAt tk σ))))) (fss_cons (fs_if (ft_op2 (op2_lt _) (pt_cmpR (opr_lt hr.units) (fo_pk (pv 1)) (fo_val (fe_c pe_int (.int 7) (fun _ => rfl))) (nomark _))) (fss_one (fs_ret (fe_join rfl (pe_join (fo_val (fe_c pe_str (.str "") (fun _ => rfl))) (fo_val (fe_fn (fn_lc (pe_lc (own := [("k", 3)]) rfl sc__law_word.nd (fi_range1 (pi_range1 (by rfl) T.b_range (fa_cons (fo_val (fe_op2 (op2_add _) (pe_op opr_add (fo_val (fe_c pe_int (.int 1) (fun _ => rfl))) (fo_val (fe_call (pe_callS (ok__law_draw T base) (hr.mono (by decide)) (by rfl) T.mg__law_draw T.kp__law_draw T.b__law_draw (fun σ => passAt tk σ) (fa_cons (fo_pk (pv 0)) (fa_cons (fo_val (fe_c pe_int (.int 4) (fun _ => rfl))) (fa_nil)))) rfl))))) (fa_nil)))) (blkOk_by (N := N__law_word) (sc := defScope s__law_word) (by decide +kernel)) (fun _ _ _ _ _ => fgv_name (by decide) (pg_name (i := 3) sc__law_word.nd rfl (Or.inl rfl))) (fun _ _ _ _ _ => fts_nil) (fun _ _ _ _ _ => fe_call (pe_callS (ok__law_pick T base) (hr.mono (by decide)) (by rfl) T.mg__law_pick T.kp__law_pick T.b__law_pick (fun σ => passAt takes0 σ) (fa_cons (fo_pk (pv 0)) (fa_cons (fo_val (fe_var (pv 2))) (fa_nil)))) rfl))))))))) (fss_nil)) (fss_one (fs_ret (fe_op2 (op2_add _) (pe_op opr_add (fo_val (fe_op2 (op2_mulA _) (pe_op opr_mulA (fo_val (fe_op2 (op2_add _) (pe_op opr_add (fo_val (fe_call (pe_callS (ok__law_pick T base) (hr.mono (by decide)) (by rfl) T.mg__law_pick T.kp__law_pick T.b__law_pick (fun σ => passAt tk σ) (fa_cons (fo_pk (pv 0)) (fa_cons (fo_val (fe_var (pv 2))) (fa_nil)))) rfl)) (fo_val (fe_call (pe_callS (ok__law_pick T base) (hr.mono (by decide)) (by rfl) T.mg__law_pick T.kp__law_pick T.b__law_pick (fun σ => passAt tk σ) (fa_cons (fo_pk (pv 0)) (fa_cons (fo_val (fe_var (pv 2))) (fa_nil)))) rfl))))) (fo_val (fe_c pe_int (.int 19) (fun _ => rfl)))))) (fo_val (fe_op2 (op2_ix _) (pe_ix ix_seq (fo_val (fe_fn (fn_lst (pe_lst (fa_cons (fo_val (fe_c pe_str (.str "") (fun _ => rfl))) (fa_cons (fo_val (fe_c pe_str (.str "a") (fun _ => rfl))) (fa_cons (fo_val (fe_c pe_str (.str "ab") (fun _ => rfl))) (fa_nil)))))))) (fo_val (fe_call (pe_callS (ok__law_draw T base) (hr.mono (by decide)) (by rfl) T.mg__law_draw T.kp__law_draw T.b__law_draw (fun σ => passAt tk σ) (fa_cons (fo_pk (pv 0)) (fa_cons (fo_val (fe_c pe_int (.int 3) (fun _ => rfl))) (fa_nil)))) rfl)) (fun _ _ => rfl)))))))))))
theorem sc__law_name : FnScope N__law_name ["hand"] (defScope s__law_name) := ⟨rfl, rfl, rfl, by decide +kernel, rfl, by decide +kernel, by decide +kernel⟩
theorem ok__law_name (T : Txt w K mg a) (base : Heap) : FnOk P w K mg base (L2.CX P w) 3 a.a__law_name a.d__law_name ["hand"] (spF (gm K a) 1 sem__law_name) := by
  refine fn_ok T.f__law_name sc__law_name body__law_name 1 rfl 4 rfl fun cdv A outer sh H E hr => ?_
  have tk : Takes (cxOf (L2.CX P w) P w K mg base N__law_name "_law_name" (defScope s__law_name) a.a__law_name cdv A outer sh H E) (fun cls d _ H => E cls d H) := takes_of rfl rfl rfl rfl
  exact fss_cons (fs_set (ps_set (i := 1) sc__law_name.nd rfl (Or.inl rfl) (fe_call (pe_callS (ok__law_draw T base) (hr.mono (by decide)) (by rfl) T.mg__law_draw T.kp__law_draw T.b__law_draw (fun σ => passAt tk σ) (fa_cons (fo_pk (pv 0)) (fa_cons (fo_val (fe_c pe_int (.int 10) (fun _ => rfl))) (fa_nil)))) rfl))) (fss_cons (fs_if (ft_op2 (op2_lt _) (pt_cmpR (opr_lt hr.units) (fo_pk (pv 1)) (fo_val (fe_c pe_int (.int 8) (fun _ => rfl))) (nomark _))) (fss_one (fs_ret (fe_op2 (op2_ix _) (pe_ix ix_seq (fo_val (fe_fn (fn_lst (pe_lst (fa_cons (fo_val (fe_c pe_str (.str "a") (fun _ => rfl))) (fa_cons (fo_val (fe_c pe_str (.str "b") (fun _ => rfl))) (fa_cons (fo_val (fe_c pe_str (.str "a") (fun _ => rfl))) (fa_cons (fo_val (fe_c pe_str (.str "b") (fun _ => rfl))) (fa_cons (fo_val (fe_c pe_str (.str "x") (fun _ => rfl))) (fa_cons (fo_val (fe_c pe_str (.str "each") (fun _ => rfl))) (fa_cons (fo_val (fe_c pe_str (.str "join") (fun _ => rfl))) (fa_cons (fo_val (fe_c pe_str (.str "lasts") (fun _ => rfl))) (fa_nil))))))))))))) (fo_pk (pv 1)) (fun _ _ => rfl))))) (fss_nil)) (fss_cons (fs_set (ps_set (i := 2) sc__law_name.nd rfl (Or.inl rfl) (fe_join rfl (pe_join (fo_val (fe_c pe_str (.str "") (fun _ => rfl))) (fo_val (fe_fn (fn_lc (pe_lc (own := [("k", 3)]) rfl sc__law_name.nd (fi_range1 (pi_range1 (by rfl) T.b_range (fa_cons (fo_val (fe_op2 (op2_add _) (pe_op opr_add (fo_val (fe_c pe_int (.int 1) (fun _ => rfl))) (fo_val (fe_call (pe_callS (ok__law_draw T base) (hr.mono (by decide)) (by rfl) T.mg__law_draw T.kp__law_draw T.b__law_draw (fun σ => passAt tk σ) (fa_cons (fo_pk (pv 0)) (fa_cons (fo_val (fe_c pe_int (.int 8) (fun _ => rfl))) (fa_nil)))) rfl))))) (fa_nil)))) (blkOk_by (N := N__law_name) (sc := defScope s__law_name) (by decide +kernel)) (fun _ _ _ _ _ => fgv_name (by decide) (pg_name (i := 3) sc__law_name.nd rfl (Or.inl rfl))) (fun _ _ _ _ _ => fts_nil) (fun _ _ _ _ _ => fe_call (pe_callS (ok__law_pick T base) (hr.mono (by decide)) (by rfl) T.mg__law_pick T.kp__law_pick T.b__law_pick (fun σ => passAt takes0 σ) (fa_cons (fo_pk (pv 0)) (fa_cons (fo_val (fe_c pe_str (.str "abcdefghijklmnopqrstuvwxyz") (fun _ => rfl))) (fa_nil)))) rfl))))))))) (fss_one (fs_ret (fe_if (ft_op2 (op2_in _) (pt_cmpR (opr_in (units65 hr)) (fo_pk (pv 2)) (fo_val (fe_fn (fn_lst (pe_lst (fa_cons (fo_val (fe_c pe_str (.str "many") (fun _ => rfl))) (fa_cons (fo_val (fe_c pe_str (.str "last") (fun _ => rfl))) (fa_nil))))))) (by rfl))) (fe_op2 (op2_add _) (pe_op opr_add (fo_val (fe_c pe_str (.str "many") (fun _ => rfl))) (fo_val (fe_sl rfl (pe_slice slr_all (fo_pk (pv 2)) (fp_none) (fp_some (fe_c pe_int (.int 1) (fun _ => rfl)))))))) (fe_var (pv 2)))))))
theorem sc__law_row : FnScope N__law_row ["hand", "pool", "loops"] (defScope s__law_row) := ⟨rfl, rfl, rfl, by decide +kernel, rfl, by decide +kernel, by decide +kernel⟩
theorem ok__law_row (T : Txt w K mg a) (base : Heap) : FnOk P w K mg base (L2.CX P w) 3 a.a__law_row a.d__law_row ["hand", "pool", "loops"] (spF (gm K a) 3 sem__law_row) := by
  refine fn_ok T.f__law_row sc__law_row body__law_row 3 rfl 5 rfl fun cdv A outer sh H E hr => ?_
  have tk : Takes (cxOf (L2.CX P w) P w K mg base N__law_row "_law_row" (defScope s__law_row) a.a__law_row cdv A outer sh H E) (fun cls d _ H => E cls d H) := takes_of rfl rfl rfl rfl
  exact fss_cons (fs_set (ps_set (i := 3) sc__law_row.nd rfl (Or.inl rfl) (fe_call (pe_callS (ok__law_draw T base) (hr.mono (by decide)) (by rfl) T.mg__law_draw T.kp__law_draw T.b__law_draw (fun σ => passAt tk σ) (fa_cons (fo_pk (pv 0)) (fa_cons (fo_val (fe_c pe_int (.int 30) (fun _ => rfl))) (fa_nil)))) rfl))) (fss_cons (fs_if (ft_op2 (op2_eq _) (pt_cmpR (op_eqD hr.units) (fo_pk (pv 3)) (fo_val (fe_c pe_int (.int 0) (fun _ => rfl))) (nomark _))) (fss_one (fs_ret (fe_opL (opL_tuple _) (pe_callTy call_tuple_of (by rfl) T.b_tuple (by decide +kernel) (fa_cons (fo_val (fe_fn (fn_lc (pe_lc (own := [("k", 4)]) rfl sc__law_row.nd (fi_range1 (pi_range1 (by rfl) T.b_range (fa_cons (fo_val (fe_c pe_int (.int 20) (fun _ => rfl))) (fa_nil)))) (blkOk_by (N := N__law_row) (sc := defScope s__law_row) (by decide +kernel)) (fun _ _ _ _ _ => fgv_name (by decide) (pg_name (i := 4) sc__law_row.nd rfl (Or.inl rfl))) (fun _ _ _ _ _ => fts_nil) (fun _ _ _ _ _ => fe_call (pe_callS (ok__law_pick T base) (hr.mono (by decide)) (by rfl) T.mg__law_pick T.kp__law_pick T.b__law_pick (fun σ => passAt takes0 σ) (fa_cons (fo_pk (pv 0)) (fa_cons (fo_val (fe_var (pv 1))) (fa_nil)))) rfl))))) (fa_nil)))))) (fss_nil)) (fss_cons (fs_if (PW.pt (fw_and (ft_op2 (op2_eq _) (pt_cmpR (op_eqD hr.units) (fo_pk (pv 3)) (fo_val (fe_c pe_int (.int 1) (fun _ => rfl))) (nomark _))) (fw_and1 (ft_op2 (op2_lt _) (pt_cmpR (opr_lt hr.units) (fo_pk (pv 2)) (fo_val (fe_c pe_int (.int 2) (fun _ => rfl))) (nomark _)))))) (fss_one (fs_ret (fe_op2 (op2_mulA _) (pe_op opr_mulA (fo_val (fe_opL (opL_tuple _) (pe_callTy call_tuple_of (by rfl) T.b_tuple (by decide +kernel) (fa_cons (fo_val (fe_fn (fn_lc (pe_lc (own := [("k", 4)]) rfl sc__law_row.nd (fi_range1 (pi_range1 (by rfl) T.b_range (fa_cons (fo_val (fe_c pe_int (.int 10) (fun _ => rfl))) (fa_nil)))) (blkOk_by (N := N__law_row) (sc := defScope s__law_row) (by decide +kernel)) (fun _ _ _ _ _ => fgv_name (by decide) (pg_name (i := 4) sc__law_row.nd rfl (Or.inl rfl))) (fun _ _ _ _ _ => fts_nil) (fun _ _ _ _ _ => fe_call (pe_callS (ok__law_pick T base) (hr.mono (by decide)) (by rfl) T.mg__law_pick T.kp__law_pick T.b__law_pick (fun σ => passAt takes0 σ) (fa_cons (fo_pk (pv 0)) (fa_cons (fo_val (fe_var (pv 1))) (fa_nil)))) rfl))))) (fa_nil))))) (fo_val (fe_op2 (op2_ix _) (pe_ix ix_seq (fo_val (fe_fn (fn_lst (pe_lst (fa_cons (fo_val (fe_c pe_int (.int 39) (fun _ => rfl))) (fa_cons (fo_val (fe_c pe_int (.int 40) (fun _ => rfl))) (fa_nil))))))) (fo_val (fe_call (pe_callS (ok__law_draw T base) (hr.mono (by decide)) (by rfl) T.mg__law_draw T.kp__law_draw T.b__law_draw (fun σ => passAt tk σ) (fa_cons (fo_pk (pv 0)) (fa_cons (fo_val (fe_c pe_int (.int 2) (fun _ => rfl))) (fa_nil)))) rfl)) (fun _ _ => rfl)))))))) (fss_nil)) (fss_one (fs_ret (fe_opL (opL_tuple _) (pe_callTy call_tuple_of (by rfl) T.b_tuple (by decide +kernel) (fa_cons (fo_val (fe_fn (fn_lc (pe_lc (own := [("k", 4)]) rfl sc__law_row.nd (fi_range1 (pi_range1 (by rfl) T.b_range (fa_cons (fo_val (fe_call (pe_callS (ok__law_draw T base) (hr.mono (by decide)) (by rfl) T.mg__law_draw T.kp__law_draw T.b__law_draw (fun σ => passAt tk σ) (fa_cons (fo_pk (pv 0)) (fa_cons (fo_val (fe_c pe_int (.int 9) (fun _ => rfl))) (fa_nil)))) rfl)) (fa_nil)))) (blkOk_by (N := N__law_row) (sc := defScope s__law_row) (by decide +kernel)) (fun _ _ _ _ _ => fgv_name (by decide) (pg_name (i := 4) sc__law_row.nd rfl (Or.inl rfl))) (fun _ _ _ _ _ => fts_nil) (fun _ _ _ _ _ => fe_call (pe_callS (ok__law_pick T base) (hr.mono (by decide)) (by rfl) T.mg__law_pick T.kp__law_pick T.b__law_pick (fun σ => passAt takes0 σ) (fa_cons (fo_pk (pv 0)) (fa_cons (fo_val (fe_var (pv 1))) (fa_nil)))) rfl))))) (fa_nil))))))))
theorem sc__law_long : FnScope N__law_long ["hand"] (defScope s__law_long) := ⟨rfl, rfl, rfl, by decide +kernel, rfl, by decide +kernel, by decide +kernel⟩
theorem ok__law_long (T : Txt w K mg a) (base : Heap) : FnOk P w K mg base (L2.CX P w) 3 a.a__law_long a.d__law_long ["hand"] (spF (gm K a) 1 sem__law_long) := by
  refine fn_ok T.f__law_long sc__law_long body__law_long 1 rfl 3 rfl fun cdv A outer sh H E hr => ?_
  have tk : Takes (cxOf (L2.CX P w) P w K mg base N__law_long "_law_long" (defScope s__law_long) a.a__law_long cdv A outer sh H E) (fun cls d _ H => E cls d H) := takes_of rfl rfl rfl rfl
  exact fss_cons (fs_set (ps_set (i := 1) sc__law_long.nd rfl (Or.inl rfl) (fe_call (pe_callS (ok__law_pick T base) (hr.mono (by decide)) (by rfl) T.mg__law_pick T.kp__law_pick T.b__law_pick (fun σ => passAt tk σ) (fa_cons (fo_pk (pv 0)) (fa_cons (fo_val (fe_fn (fn_lst (pe_lst (fa_cons (fo_val (fe_c pe_int (.int 17) (fun _ => rfl))) (fa_cons (fo_val (fe_c pe_int (.int 19) (fun _ => rfl))) (fa_cons (fo_val (fe_c pe_int (.int 20) (fun _ => rfl))) (fa_cons (fo_val (fe_c pe_int (.int 21) (fun _ => rfl))) (fa_cons (fo_val (fe_c pe_int (.int 23) (fun _ => rfl))) (fa_cons (fo_val (fe_c pe_int (.int 39) (fun _ => rfl))) (fa_cons (fo_val (fe_c pe_int (.int 40) (fun _ => rfl))) (fa_cons (fo_val (fe_c pe_int (.int 0) (fun _ => rfl))) (fa_cons (fo_val (fe_c pe_int (.int 1) (fun _ => rfl))) (fa_cons (fo_val (fe_c pe_int (.int 2) (fun _ => rfl))) (fa_nil))))))))))))))) (fa_nil)))) rfl))) (fss_cons (fs_set (ps_set (i := 2) sc__law_long.nd rfl (Or.inl rfl) (fe_call (pe_callS (ok__law_pick T base) (hr.mono (by decide)) (by rfl) T.mg__law_pick T.kp__law_pick T.b__law_pick (fun σ => passAt tk σ) (fa_cons (fo_pk (pv 0)) (fa_cons (fo_val (fe_call0 (pe_callS0 (ok__law_signs T base) (hr.mono (by decide)) (by rfl) T.mg__law_signs T.kp__law_signs T.b__law_signs (fun σ => passAt tk σ)))) (fa_nil)))) rfl))) (fss_one (fs_ret (fe_if (ft_op2 (op2_gt _) (pt_cmpR opr_gt (fo_pk (pv 1)) (fo_val (fe_c pe_int (.int 0) (fun _ => rfl))) (nomark _))) (fe_op2 (op2_add _) (pe_op opr_add (fo_val (fe_op2 (op2_mulA _) (pe_op opr_mulA (fo_pk (pv 2)) (fo_val (fe_op2 (op2_sub _) (pe_op op_sub (fo_pk (pv 1)) (fo_val (fe_c pe_int (.int 1) (fun _ => rfl))))))))) (fo_val (fe_call (pe_callS (ok__law_pick T base) (hr.mono (by decide)) (by rfl) T.mg__law_pick T.kp__law_pick T.b__law_pick (fun σ => passAt tk σ) (fa_cons (fo_pk (pv 0)) (fa_cons (fo_val (fe_fn (fn_lst (pe_lst (fa_cons (fo_val (fe_var (pv 2))) (fa_cons (fo_val (fe_c pe_str (.str "a") (fun _ => rfl))) (fa_cons (fo_val (fe_c pe_str (.str "b") (fun _ => rfl))) (fa_nil)))))))) (fa_nil)))) rfl)))) (fe_c pe_str (.str "") (fun _ => rfl))))))
theorem sc__law_small : FnScope N__law_small ["hand", "words"] (defScope s__law_small) := ⟨rfl, rfl, rfl, by decide +kernel, rfl, by decide +kernel, by decide +kernel⟩
theorem ok__law_small (T : Txt w K mg a) (base : Heap) : FnOk P w K mg base (L2.CX P w) 3 a.a__law_small a.d__law_small ["hand", "words"] (spF (gm K a) 2 sem__law_small) := by
  refine fn_ok T.f__law_small sc__law_small body__law_small 2 rfl 10 rfl fun cdv A outer sh H E hr => ?_
  have tk : Takes (cxOf (L2.CX P w) P w K mg base N__law_small "_law_small" (defScope s__law_small) a.a__law_small cdv A outer sh H E) (fun cls d _ H => E cls d H) := takes_of rfl rfl rfl rfl
  exact fss_cons (fs_set (ps_set (i := 2) sc__law_small.nd rfl (Or.inl rfl) (fe_op2 (op2_add _) (pe_op opr_add (fo_val (fe_fn (fn_lst (pe_lst (fa_cons (fo_val (fe_tup (pe_tup (fa_cons (fo_val (fe_c pe_str (.str "last") (fun _ => rfl))) (fa_nil))))) (fa_cons (fo_val (fe_tup (pe_tup (fa_cons (fo_val (fe_c pe_str (.str "name") (fun _ => rfl))) (fa_cons (fo_val (fe_c pe_str (.str "x") (fun _ => rfl))) (fa_nil)))))) (fa_cons (fo_val (fe_tup (pe_tup (fa_cons (fo_val (fe_c pe_str (.str "many") (fun _ => rfl))) (fa_nil))))) (fa_nil)))))))) (fo_val (fe_fn (fn_lc (pe_lc (own := [("word", 9)]) rfl sc__law_small.nd (fi_any rfl (pi_any (fe_var (pv 1)))) (blkOk_by (N := N__law_small) (sc := defScope s__law_small) (by decide +kernel)) (fun _ _ _ _ _ => fgv_name (by decide) (pg_name (i := 9) sc__law_small.nd rfl (Or.inl rfl))) (fun _ _ _ _ _ => fts_nil) (fun _ _ _ _ _ => fe_tup (pe_tup (fa_cons (fo_val (fe_c pe_str (.str "text") (fun _ => rfl))) (fa_cons (fo_val (fe_var (pv 9))) (fa_nil))))))))))))) (fss_cons (fs_par (ps_par (i := 3) (j := 4) rfl sc__law_small.nd rfl rfl (by decide) rfl rfl (pa_cons (fe_call (pe_callS (ok__law_pick T base) (hr.mono (by decide)) (by rfl) T.mg__law_pick T.kp__law_pick T.b__law_pick (fun σ => passAt tk σ) (fa_cons (fo_pk (pv 0)) (fa_cons (fo_val (fe_var (pv 2))) (fa_nil)))) rfl) (pa_cons (fe_call (pe_callS (ok__law_pick T base) (hr.mono (by decide)) (by rfl) T.mg__law_pick T.kp__law_pick T.b__law_pick (fun σ => passAt tk σ) (fa_cons (fo_pk (pv 0)) (fa_cons (fo_val (fe_var (pv 2))) (fa_nil)))) rfl) pa_nil)) (by rfl))) (fss_cons (fs_set (ps_set (i := 5) sc__law_small.nd rfl (Or.inl rfl) (fe_call (pe_callS (ok__law_draw T base) (hr.mono (by decide)) (by rfl) T.mg__law_draw T.kp__law_draw T.b__law_draw (fun σ => passAt tk σ) (fa_cons (fo_pk (pv 0)) (fa_cons (fo_val (fe_c pe_int (.int 6) (fun _ => rfl))) (fa_nil)))) rfl))) (fss_cons (fs_if (ft_op2 (op2_lt _) (pt_cmpR (opr_lt hr.units) (fo_pk (pv 5)) (fo_val (fe_c pe_int (.int 2) (fun _ => rfl))) (nomark _))) (fss_one (fs_set (ps_set (i := 3) sc__law_small.nd rfl (Or.inl rfl) (fe_if (ft_op2 (op2_eq _) (pt_cmpR (op_eqD hr.units) (fo_pk (pv 5)) (fo_val (fe_c pe_int (.int 0) (fun _ => rfl))) (nomark _))) (fe_tup (pe_tup (fa_cons (fo_val (fe_c pe_str (.str "join") (fun _ => rfl))) (fa_cons (fo_val (fe_var (pv 3))) (fa_cons (fo_val (fe_var (pv 4))) (fa_nil)))))) (fe_tup (pe_tup (fa_cons (fo_val (fe_c pe_str (.str "join") (fun _ => rfl))) (fa_cons (fo_val (fe_tup (pe_tup (fa_cons (fo_val (fe_c pe_str (.str "join") (fun _ => rfl))) (fa_cons (fo_val (fe_var (pv 3))) (fa_cons (fo_val (fe_var (pv 4))) (fa_nil))))))) (fa_cons (fo_val (fe_call (pe_callS (ok__law_pick T base) (hr.mono (by decide)) (by rfl) T.mg__law_pick T.kp__law_pick T.b__law_pick (fun σ => passAt tk σ) (fa_cons (fo_pk (pv 0)) (fa_cons (fo_val (fe_var (pv 2))) (fa_nil)))) rfl)) (fa_nil)))))))))) (fss_one (fs_if (ft_op2 (op2_lt _) (pt_cmpR (opr_lt hr.units) (fo_pk (pv 5)) (fo_val (fe_c pe_int (.int 5) (fun _ => rfl))) (nomark _))) (fss_cons (fs_set (ps_set (i := 3) sc__law_small.nd rfl (Or.inl rfl) (fe_tup (pe_tup (fa_cons (fo_val (fe_op2 (op2_ix _) (pe_ix ix_seq (fo_val (fe_fn (fn_lst (pe_lst (fa_cons (fo_val (fe_c pe_str (.str "turn") (fun _ => rfl))) (fa_cons (fo_val (fe_c pe_str (.str "rest") (fun _ => rfl))) (fa_cons (fo_val (fe_c pe_str (.str "first") (fun _ => rfl))) (fa_nil)))))))) (fo_val (fe_op2 (op2_sub _) (pe_op op_sub (fo_pk (pv 5)) (fo_val (fe_c pe_int (.int 2) (fun _ => rfl)))))) (fun _ _ => rfl)))) (fa_cons (fo_val (fe_var (pv 3))) (fa_nil))))))) (fss_one (fs_set (ps_set (i := 3) sc__law_small.nd rfl (Or.inl rfl) (fe_if (ft_op2 (op2_eq _) (pt_cmpR (op_eqD hr.units) (fo_val (fe_call (pe_callS (ok__law_draw T base) (hr.mono (by decide)) (by rfl) T.mg__law_draw T.kp__law_draw T.b__law_draw (fun σ => passAt tk σ) (fa_cons (fo_pk (pv 0)) (fa_cons (fo_val (fe_c pe_int (.int 3) (fun _ => rfl))) (fa_nil)))) rfl)) (fo_val (fe_c pe_int (.int 0) (fun _ => rfl))) (nomark _))) (fe_tup (pe_tup (fa_cons (fo_val (fe_c pe_str (.str "join") (fun _ => rfl))) (fa_cons (fo_val (fe_var (pv 3))) (fa_cons (fo_val (fe_var (pv 4))) (fa_nil)))))) (fe_var (pv 3))))))) (fss_nil)))) (fss_cons (fs_set (ps_set (i := 6) sc__law_small.nd rfl (Or.inl rfl) (fe_call (pe_callS (ok__law_draw T base) (hr.mono (by decide)) (by rfl) T.mg__law_draw T.kp__law_draw T.b__law_draw (fun σ => passAt tk σ) (fa_cons (fo_pk (pv 0)) (fa_cons (fo_val (fe_c pe_int (.int 4) (fun _ => rfl))) (fa_nil)))) rfl))) (fss_cons (fs_if (ft_op2 (op2_eq _) (pt_cmpR (op_eqD hr.units) (fo_pk (pv 6)) (fo_val (fe_c pe_int (.int 0) (fun _ => rfl))) (nomark _))) (fss_one (fs_ret (fe_tup (pe_tup (fa_cons (fo_val (fe_tup (pe_tup (fa_cons (fo_val (fe_c pe_str (.str "let") (fun _ => rfl))) (fa_cons (fo_val (fe_c pe_str (.str "x") (fun _ => rfl))) (fa_cons (fo_val (fe_var (pv 4))) (fa_nil))))))) (fa_cons (fo_val (fe_tup (pe_tup (fa_cons (fo_val (fe_c pe_str (.str "say") (fun _ => rfl))) (fa_cons (fo_val (fe_var (pv 3))) (fa_nil)))))) (fa_nil))))))) (fss_nil)) (fss_cons (fs_set (ps_set (i := 7) sc__law_small.nd rfl (Or.inl rfl) (fe_tup (pe_tup (fa_cons (fo_val (fe_call (pe_callS (ok__law_pick T base) (hr.mono (by decide)) (by rfl) T.mg__law_pick T.kp__law_pick T.b__law_pick (fun σ => passAt tk σ) (fa_cons (fo_pk (pv 0)) (fa_cons (fo_val (fe_fn (fn_lst (pe_lst (fa_cons (fo_val (fe_c pe_str (.str "same") (fun _ => rfl))) (fa_cons (fo_val (fe_c pe_str (.str "ahead") (fun _ => rfl))) (fa_cons (fo_val (fe_c pe_str (.str "in") (fun _ => rfl))) (fa_nil)))))))) (fa_nil)))) rfl)) (fa_cons (fo_val (fe_var (pv 3))) (fa_cons (fo_val (fe_call (pe_callS (ok__law_pick T base) (hr.mono (by decide)) (by rfl) T.mg__law_pick T.kp__law_pick T.b__law_pick (fun σ => passAt tk σ) (fa_cons (fo_pk (pv 0)) (fa_cons (fo_val (fe_var (pv 2))) (fa_nil)))) rfl)) (fa_nil)))))))) (fss_cons (fs_set (ps_set (i := 7) sc__law_small.nd rfl (Or.inl rfl) (fe_if (ft_op2 (op2_eq _) (pt_cmpR (op_eqD hr.units) (fo_val (fe_call (pe_callS (ok__law_draw T base) (hr.mono (by decide)) (by rfl) T.mg__law_draw T.kp__law_draw T.b__law_draw (fun σ => passAt tk σ) (fa_cons (fo_pk (pv 0)) (fa_cons (fo_val (fe_c pe_int (.int 4) (fun _ => rfl))) (fa_nil)))) rfl)) (fo_val (fe_c pe_int (.int 0) (fun _ => rfl))) (nomark _))) (fe_tup (pe_tup (fa_cons (fo_val (fe_c pe_str (.str "not") (fun _ => rfl))) (fa_cons (fo_val (fe_var (pv 7))) (fa_nil))))) (fe_var (pv 7))))) (fss_cons (fs_if (ft_op2 (op2_eq _) (pt_cmpR (op_eqD hr.units) (fo_pk (pv 6)) (fo_val (fe_c pe_int (.int 1) (fun _ => rfl))) (nomark _))) (fss_one (fs_ret (fe_tup (pe_tup (fa_cons (fo_val (fe_tup (pe_tup (fa_cons (fo_val (fe_c pe_str (.str "each") (fun _ => rfl))) (fa_cons (fo_val (fe_c pe_str (.str "x") (fun _ => rfl))) (fa_cons (fo_val (fe_tup (pe_tup (fa_cons (fo_val (fe_tup (pe_tup (fa_cons (fo_val (fe_c pe_str (.str "if") (fun _ => rfl))) (fa_cons (fo_val (fe_var (pv 7))) (fa_cons (fo_val (fe_tup (pe_tup (fa_cons (fo_val (fe_tup (pe_tup (fa_cons (fo_val (fe_c pe_str (.str "say") (fun _ => rfl))) (fa_cons (fo_val (fe_tup (pe_tup (fa_cons (fo_val (fe_c pe_str (.str "name") (fun _ => rfl))) (fa_cons (fo_val (fe_c pe_str (.str "x") (fun _ => rfl))) (fa_nil)))))) (fa_nil)))))) (fa_nil))))) (fa_cons (fo_val (fe_tup (pe_tup (fa_nil)))) (fa_nil)))))))) (fa_nil))))) (fa_nil))))))) (fa_cons (fo_val (fe_tup (pe_tup (fa_cons (fo_val (fe_c pe_str (.str "say") (fun _ => rfl))) (fa_cons (fo_val (fe_tup (pe_tup (fa_cons (fo_val (fe_c pe_str (.str "join") (fun _ => rfl))) (fa_cons (fo_val (fe_tup (pe_tup (fa_cons (fo_val (fe_c pe_str (.str "text") (fun _ => rfl))) (fa_cons (fo_val (fe_c pe_str (.str "n") (fun _ => rfl))) (fa_nil)))))) (fa_cons (fo_val (fe_var (pv 3))) (fa_nil))))))) (fa_nil)))))) (fa_nil))))))) (fss_nil)) (fss_cons (fs_set (ps_set (i := 8) sc__law_small.nd rfl (Or.inl rfl) (fe_tup (pe_tup (fa_cons (fo_val (fe_tup (pe_tup (fa_cons (fo_val (fe_c pe_str (.str "if") (fun _ => rfl))) (fa_cons (fo_val (fe_var (pv 7))) (fa_cons (fo_val (fe_tup (pe_tup (fa_cons (fo_val (fe_tup (pe_tup (fa_cons (fo_val (fe_c pe_str (.str "say") (fun _ => rfl))) (fa_cons (fo_val (fe_var (pv 3))) (fa_nil)))))) (fa_nil))))) (fa_cons (fo_val (fe_tup (pe_tup (fa_cons (fo_val (fe_tup (pe_tup (fa_cons (fo_val (fe_c pe_str (.str "say") (fun _ => rfl))) (fa_cons (fo_val (fe_tup (pe_tup (fa_cons (fo_val (fe_c pe_str (.str "join") (fun _ => rfl))) (fa_cons (fo_val (fe_tup (pe_tup (fa_cons (fo_val (fe_c pe_str (.str "text") (fun _ => rfl))) (fa_cons (fo_val (fe_c pe_str (.str "n") (fun _ => rfl))) (fa_nil)))))) (fa_cons (fo_val (fe_tup (pe_tup (fa_cons (fo_val (fe_c pe_str (.str "last") (fun _ => rfl))) (fa_nil))))) (fa_nil))))))) (fa_nil)))))) (fa_nil))))) (fa_nil)))))))) (fa_nil)))))) (fss_one (fs_ret (fe_if (ft_op2 (op2_eq _) (pt_cmpR (op_eqD hr.units) (fo_pk (pv 6)) (fo_val (fe_c pe_int (.int 2) (fun _ => rfl))) (nomark _))) (fe_var (pv 8)) (fe_op2 (op2_add _) (pe_op opr_add (fo_val (fe_tup (pe_tup (fa_cons (fo_val (fe_tup (pe_tup (fa_cons (fo_val (fe_c pe_str (.str "let") (fun _ => rfl))) (fa_cons (fo_val (fe_c pe_str (.str "x") (fun _ => rfl))) (fa_cons (fo_val (fe_tup (pe_tup (fa_cons (fo_val (fe_c pe_str (.str "text") (fun _ => rfl))) (fa_cons (fo_val (fe_op2 (op2_ix _) (pe_ix ix_seq (fo_pk (pv 1)) (fo_val (fe_c pe_int (.int 0) (fun _ => rfl))) (fun _ _ => rfl)))) (fa_nil)))))) (fa_nil))))))) (fa_nil))))) (fo_pk (pv 8))))))))))))))))
theorem sc_is_program : FnScope N_is_program ["statements"] (defScope s_is_program) := ⟨rfl, rfl, rfl, by decide +kernel, rfl, by decide +kernel, by decide +kernel⟩
theorem ok_is_program (T : Txt w K mg a) (base : Heap) : FnOk P w K mg base (L2.CX P w) 4 a.a_is_program a.d_is_program ["statements"] (spF (gm K a) 1 sem_is_program) := by
  obtain ⟨u_BODY, m_BODY, r_BODY⟩ := T.k_BODY
  obtain ⟨u_MOST_PARTS, m_MOST_PARTS, r_MOST_PARTS⟩ := T.k_MOST_PARTS
  obtain ⟨u_NAME, m_NAME, r_NAME⟩ := T.k_NAME
  obtain ⟨u_WORD, m_WORD, r_WORD⟩ := T.k_WORD
  refine fn_ok T.f_is_program sc_is_program body_is_program 1 rfl 8 rfl fun cdv A outer sh H E hr => ?_
  have tk : Takes (cxOf (L2.CX P w) P w K mg base N_is_program "is_program" (defScope s_is_program) a.a_is_program cdv A outer sh H E) (fun cls d _ H => E cls d H) := takes_of rfl rfl rfl rfl
  exact fss_cons (fs_setM (ps_set (i := 1) sc_is_program.nd rfl (Or.inl rfl) (fm_call (pe_callS (ok_within T base) (hr.mono (by decide)) (by rfl) T.mg_within T.kp_within T.b_within (fun σ => passAt tk σ) (fa_cons (fo_val (fe_var (pv 0))) (fa_cons (fo_val (fe_c pe_int (.int 1) (fun _ => rfl))) (fa_cons (fo_val (fe_c pe_int (.int 0) (fun _ => rfl))) (fa_nil))))) rfl))) (fss_cons (fs_set (ps_set (i := 2) sc_is_program.nd rfl (Or.inl rfl) (fe_c pe_int (.int 0) (fun _ => rfl)))) (fss_cons (fs_while 1000000 (ps_while (passes_of rfl) (ft_tru rfl (pt_truth (fo_pk (pv 1)) (fun _ => rfl))) (fss_cons (fs_asg (ps_asg (fe_mt0 mtok_pop (pe_bm0 PySem.F.plainAttrs_list PySem.F.slot_list_pop PySem.F.type_list_pop mt_pop (fo_pk (pv 1)))) (fg_tup rfl (fgs_cons (fg_name (pg_name (i := 3) sc_is_program.nd rfl (Or.inl rfl))) (fgs_cons (fg_name (pg_name (i := 4) sc_is_program.nd rfl (Or.inl rfl))) (fgs_cons (fg_name (pg_name (i := 5) sc_is_program.nd rfl (Or.inl rfl))) (fgs_cons (fg_name (pg_name (i := 6) sc_is_program.nd rfl (Or.inl rfl))) (fgs_nil))))) rfl))) (fss_cons (fs_if (ft_op2 (op2_in _) (pt_cmpR (opr_in (units65 hr)) (fo_pk (pv 3)) (fo_val (fe_tup (pe_tup (fa_cons (fo_val (fe_c (pe_glob (v := .str "name") (by rfl) m_NAME r_NAME) (.str "name") (fun _ => rfl))) (fa_cons (fo_val (fe_c (pe_glob (v := .str "word") (by rfl) m_WORD r_WORD) (.str "word") (fun _ => rfl))) (fa_nil)))))) (by rfl))) (fss_one (fs_set (ps_set (i := 7) sc_is_program.nd rfl (Or.inl rfl) (fe_if (ft_val (pt_val (fe_call (pe_callS (ok_is_leaf_right T base) (hr.mono (by decide)) (by rfl) T.mg_is_leaf_right T.kp_is_leaf_right T.b_is_leaf_right (fun σ => passAt tk σ) (fa_cons (fo_val (fe_var (pv 3))) (fa_cons (fo_val (fe_var (pv 4))) (fa_nil)))) rfl))) (fe_fn (fn_lst (pe_lst (fa_nil)))) (fe_c pe_non .non (fun _ => rfl)))))) (fss_one (fs_if (ft_op2 (op2_eq _) (pt_cmpR (op_eqD hr.units) (fo_pk (pv 3)) (fo_val (fe_c (pe_glob (v := .str "body") (by rfl) m_BODY r_BODY) (.str "body") (fun _ => rfl))) (nomark _))) (fss_one (fs_set (ps_set (i := 7) sc_is_program.nd rfl (Or.inl rfl) (fe_m (fm_call (pe_callS (ok_within T base) (hr.mono (by decide)) (by rfl) T.mg_within T.kp_within T.b_within (fun σ => passAt tk σ) (fa_cons (fo_val (fe_var (pv 4))) (fa_cons (fo_val (fe_var (pv 5))) (fa_cons (fo_val (fe_var (pv 6))) (fa_nil))))) rfl))))) (fss_cons (fs_augI (ps_aug (i := 2) sc_is_program.nd rfl (Or.inl rfl) (fe_c pe_int (.int 1) (fun _ => rfl)) ip_add)) (fss_one (fs_set (ps_set (i := 7) sc_is_program.nd rfl (Or.inl rfl) (fe_call (pe_callS (ok_within_part T base) (hr.mono (by decide)) (by rfl) T.mg_within_part T.kp_within_part T.b_within_part (fun σ => passAt tk σ) (fa_cons (fo_val (fe_var (pv 3))) (fa_cons (fo_val (fe_var (pv 4))) (fa_cons (fo_val (fe_var (pv 5))) (fa_cons (fo_val (fe_var (pv 6))) (fa_nil)))))) rfl)))))))) (fss_cons (fs_if (PW.pt (fw_or (ft_op2 (op2_isN _) (pt_cmpR op_isN (fo_pk (pv 7)) (fo_val (fe_c pe_non .non (fun _ => rfl))) (nomark _))) (fw_or1 (ft_op2 (op2_gt _) (pt_cmpR opr_gt (fo_pk (pv 2)) (fo_val (fe_c (pe_glob (v := .int 500) (by rfl) m_MOST_PARTS r_MOST_PARTS) (.int 500) (fun _ => rfl))) (nomark _)))))) (fss_one (fs_ret (fe_c pe_bl (.bl false) (fun _ => rfl)))) (fss_nil)) (fss_one (fs_expr (ps_expr (fe_mt mtok_extend (pe_bm PySem.F.plainAttrs_list PySem.F.slot_list_extend PySem.F.type_list_extend mt_extendA (fo_pk (pv 1)) (fa_cons (fo_val (fe_var (pv 7))) (fa_nil)))))))))))) (fss_one (fs_ret (fe_op2 (op2_notN _) (pe_cmpR op_notN (fo_pk (pv 1)) (fo_val (fe_c pe_non .non (fun _ => rfl))) (nomark _)))))))
theorem sc__law_e : FnScope N__law_e ["hand", "pool", "room", "deep"] (defScope s__law_e) := ⟨rfl, rfl, rfl, by decide +kernel, rfl, by decide +kernel, by decide +kernel⟩
theorem okS__law_e (T : Txt w K mg a) (base : Heap) (m : Nat) (ih : FnOk P w K mg base (L2.CX P w) (4 + m) a.a__law_e a.d__law_e ["hand", "pool", "room", "deep"] (spF (gm K a) 4 (sem__law_e m))) : FnOk P w K mg base (L2.CX P w) (4 + m + 1) a.a__law_e a.d__law_e ["hand", "pool", "room", "deep"] (spF (gm K a) 4 (sem__law_e (m + 1))) := by
  refine fn_ok (k := 4 + m) T.f__law_e sc__law_e (body__law_e (sem__law_e m)) 4 rfl 6 rfl fun cdv A outer sh H E hr => ?_
  have tk : Takes (cxOf (L2.CX P w) P w K mg base N__law_e "_law_e" (defScope s__law_e) a.a__law_e cdv A outer sh H E) (fun cls d _ H => E cls d H) := takes_of rfl rfl rfl rfl
  exact fss_cons (fs_setIx (ps_asg (fe_op2 (op2_sub _) (pe_op op_sub (fo_val (fe_op2 (op2_ix _) (pe_ix ix_seq (fo_pk (pv 2)) (fo_val (fe_c pe_int (.int 0) (fun _ => rfl))) (fun _ _ => rfl)))) (fo_val (fe_c pe_int (.int 1) (fun _ => rfl))))) (pg_sub (fo_pk (pv 2)) (fe_c pe_int (.int 0) (fun _ => rfl)) set_list))) (fss_cons (fs_set (ps_set (i := 4) sc__law_e.nd rfl (Or.inl rfl) (fe_call (pe_callS (ok__law_draw T base) (hr.mono (by omega)) (by rfl) T.mg__law_draw T.kp__law_draw T.b__law_draw (fun σ => passAt tk σ) (fa_cons (fo_pk (pv 0)) (fa_cons (fo_val (fe_c pe_int (.int 14) (fun _ => rfl))) (fa_nil)))) rfl))) (fss_cons (fs_if (PW.pt (fw_and (ft_op2 (op2_gt _) (pt_cmpR opr_gt (fo_val (fe_op2 (op2_ix _) (pe_ix ix_seq (fo_pk (pv 2)) (fo_val (fe_c pe_int (.int 0) (fun _ => rfl))) (fun _ _ => rfl)))) (fo_val (fe_c pe_int (.int 0) (fun _ => rfl))) (nomark _))) (fw_and (ft_op2 (op2_gt _) (pt_cmpR opr_gt (fo_pk (pv 3)) (fo_val (fe_c pe_int (.int 1) (fun _ => rfl))) (nomark _))) (fw_and1 (ft_op2 (op2_lt _) (pt_cmpR (opr_lt hr.units) (fo_pk (pv 4)) (fo_val (fe_c pe_int (.int 3) (fun _ => rfl))) (nomark _))))))) (fss_cons (fs_set (ps_set (i := 5) sc__law_e.nd rfl (Or.inl rfl) (fe_call (pe_callS ih (hr.mono (by omega)) (by rfl) T.mg__law_e T.kp__law_e T.b__law_e (fun σ => passAt tk σ) (fa_cons (fo_pk (pv 0)) (fa_cons (fo_val (fe_var (pv 1))) (fa_cons (fo_pk (pv 2)) (fa_cons (fo_val (fe_op2 (op2_sub _) (pe_op op_sub (fo_pk (pv 3)) (fo_val (fe_c pe_int (.int 1) (fun _ => rfl)))))) (fa_nil)))))) rfl))) (fss_one (fs_ret (fe_tup (pe_tup (fa_cons (fo_val (fe_c pe_str (.str "join") (fun _ => rfl))) (fa_cons (fo_val (fe_var (pv 5))) (fa_cons (fo_val (fe_call (pe_callS ih (hr.mono (by omega)) (by rfl) T.mg__law_e T.kp__law_e T.b__law_e (fun σ => passAt tk σ) (fa_cons (fo_pk (pv 0)) (fa_cons (fo_val (fe_var (pv 1))) (fa_cons (fo_pk (pv 2)) (fa_cons (fo_val (fe_op2 (op2_sub _) (pe_op op_sub (fo_pk (pv 3)) (fo_val (fe_c pe_int (.int 1) (fun _ => rfl)))))) (fa_nil)))))) rfl)) (fa_nil))))))))) (fss_nil)) (fss_cons (fs_if (PW.pt (fw_and (ft_op2 (op2_gt _) (pt_cmpR opr_gt (fo_val (fe_op2 (op2_ix _) (pe_ix ix_seq (fo_pk (pv 2)) (fo_val (fe_c pe_int (.int 0) (fun _ => rfl))) (fun _ _ => rfl)))) (fo_val (fe_c pe_int (.int 0) (fun _ => rfl))) (nomark _))) (fw_and (ft_op2 (op2_gt _) (pt_cmpR opr_gt (fo_pk (pv 3)) (fo_val (fe_c pe_int (.int 1) (fun _ => rfl))) (nomark _))) (fw_and1 (ft_op2 (op2_lt _) (pt_cmpR (opr_lt hr.units) (fo_pk (pv 4)) (fo_val (fe_c pe_int (.int 6) (fun _ => rfl))) (nomark _))))))) (fss_one (fs_ret (fe_tup (pe_tup (fa_cons (fo_val (fe_op2 (op2_ix _) (pe_ix ix_seq (fo_val (fe_fn (fn_lst (pe_lst (fa_cons (fo_val (fe_c pe_str (.str "turn") (fun _ => rfl))) (fa_cons (fo_val (fe_c pe_str (.str "rest") (fun _ => rfl))) (fa_cons (fo_val (fe_c pe_str (.str "first") (fun _ => rfl))) (fa_nil)))))))) (fo_val (fe_op2 (op2_sub _) (pe_op op_sub (fo_pk (pv 4)) (fo_val (fe_c pe_int (.int 3) (fun _ => rfl)))))) (fun _ _ => rfl)))) (fa_cons (fo_val (fe_call (pe_callS ih (hr.mono (by omega)) (by rfl) T.mg__law_e T.kp__law_e T.b__law_e (fun σ => passAt tk σ) (fa_cons (fo_pk (pv 0)) (fa_cons (fo_val (fe_var (pv 1))) (fa_cons (fo_pk (pv 2)) (fa_cons (fo_val (fe_op2 (op2_sub _) (pe_op op_sub (fo_pk (pv 3)) (fo_val (fe_c pe_int (.int 1) (fun _ => rfl)))))) (fa_nil)))))) rfl)) (fa_nil))))))) (fss_nil)) (fss_cons (fs_if (ft_op2 (op2_eq _) (pt_cmpR (op_eqD hr.units) (fo_pk (pv 4)) (fo_val (fe_c pe_int (.int 13) (fun _ => rfl))) (nomark _))) (fss_one (fs_ret (fe_tup (pe_tup (fa_cons (fo_val (fe_c pe_str (.str "many") (fun _ => rfl))) (fa_nil)))))) (fss_nil)) (fss_cons (fs_if (PW.pt (fw_or (ft_op2 (op2_gt _) (pt_cmpR opr_gt (fo_pk (pv 4)) (fo_val (fe_c pe_int (.int 10) (fun _ => rfl))) (nomark _))) (fw_or1 (ft_chain (op2_lt _) (op2_lt _) (pt_chain (opr_lt hr.units) (opr_lt hr.units) (fo_val (fe_c pe_int (.int 2) (fun _ => rfl))) (fo_pk (pv 4)) (fo_val (fe_c pe_int (.int 6) (fun _ => rfl)))))))) (fss_one (fs_ret (fe_tup (pe_tup (fa_cons (fo_val (fe_c pe_str (.str "last") (fun _ => rfl))) (fa_nil)))))) (fss_nil)) (fss_cons (fs_if (PW.pt (fw_or (ft_op2 (op2_gt _) (pt_cmpR opr_gt (fo_pk (pv 4)) (fo_val (fe_c pe_int (.int 7) (fun _ => rfl))) (nomark _))) (fw_or1 (ft_op2 (op2_lt _) (pt_cmpR (opr_lt hr.units) (fo_pk (pv 4)) (fo_val (fe_c pe_int (.int 3) (fun _ => rfl))) (nomark _)))))) (fss_one (fs_ret (fe_tup (pe_tup (fa_cons (fo_val (fe_c pe_str (.str "text") (fun _ => rfl))) (fa_cons (fo_val (fe_call (pe_callS (ok__law_pick T base) (hr.mono (by omega)) (by rfl) T.mg__law_pick T.kp__law_pick T.b__law_pick (fun σ => passAt tk σ) (fa_cons (fo_pk (pv 0)) (fa_cons (fo_val (fe_var (pv 1))) (fa_nil)))) rfl)) (fa_nil))))))) (fss_nil)) (fss_one (fs_ret (fe_tup (pe_tup (fa_cons (fo_val (fe_c pe_str (.str "name") (fun _ => rfl))) (fa_cons (fo_val (fe_call (pe_callS (ok__law_name T base) (hr.mono (by omega)) (by rfl) T.mg__law_name T.kp__law_name T.b__law_name (fun σ => passAt tk σ) (fa_cons (fo_pk (pv 0)) (fa_nil))) rfl)) (fa_nil)))))))))))))
theorem ok__law_e (T : Txt w K mg a) (base : Heap) : ∀ n, FnOk P w K mg base (L2.CX P w) (4 + n) a.a__law_e a.d__law_e ["hand", "pool", "room", "deep"] (spF (gm K a) 4 (sem__law_e n))
  | 0 => fn0_ok 4 rfl
  | m + 1 => okS__law_e T base m (ok__law_e T base m)
theorem sc_Program___init__ : FnScope N_Program___init__ ["self", "statements"] (defScope s_Program___init__) := ⟨rfl, rfl, rfl, by decide +kernel, rfl, by decide +kernel, by decide +kernel⟩
theorem ok_Program___init__ (T : Txt w K mg a) (base : Heap) : FnOk P w K mg base (L2.CX P w) 5 a.a_Program___init__ a.d_Program___init__ ["self", "statements"] (spF (gm K a) 2 sem_Program___init__) := by
  refine fn_ok T.f_Program___init__ sc_Program___init__ body_Program___init__ 2 rfl 2 rfl fun cdv A outer sh H E hr => ?_
  have tk : Takes (cxOf (L2.CX P w) P w K mg base N_Program___init__ "Program.__init__" (defScope s_Program___init__) a.a_Program___init__ cdv A outer sh H E) (fun cls d _ H => E cls d H) := takes_of rfl rfl rfl rfl
  exact fss_cons (fs_if (ft_not (ft_val (pt_val (fe_call (pe_callS (ok_is_program T base) (hr.mono (by decide)) (by rfl) T.mg_is_program T.kp_is_program T.b_is_program (fun σ => passAt tk σ) (fa_cons (fo_val (fe_var (pv 1))) (fa_nil))) rfl)))) (fss_one (fs_never)) (fss_nil)) (fss_one (fs_setFld rfl T.cl T.na_statements (ps_fld (fo_pk (pv 0)) (fe_var (pv 1)) rfl)))
theorem sc_is_so : FnScope N_is_so ["condition", "row", "meanings"] (defScope s_is_so) := ⟨rfl, rfl, rfl, by decide +kernel, rfl, by decide +kernel, by decide +kernel⟩
theorem okS_is_so (T : Txt w K mg a) (base : Heap) (m : Nat) (ih : FnOk P w K mg base (L2.CX P w) (27 + m) a.a_is_so a.d_is_so ["condition", "row", "meanings"] (spF (gm K a) 3 (sem_is_so m))) : FnOk P w K mg base (L2.CX P w) (27 + m + 1) a.a_is_so a.d_is_so ["condition", "row", "meanings"] (spF (gm K a) 3 (sem_is_so (m + 1))) := by
  refine fn_ok (k := 27 + m) T.f_is_so sc_is_so (body_is_so (sem_is_so m)) 3 rfl 5 rfl fun cdv A outer sh H E hr => ?_
  have tk : Takes (cxOf (L2.CX P w) P w K mg base N_is_so "is_so" (defScope s_is_so) a.a_is_so cdv A outer sh H E) (fun cls d _ H => E cls d H) := takes_of rfl rfl rfl rfl
  exact fss_cons (fs_if (ft_op2 (op2_eq _) (pt_cmpR (op_eqD hr.units) (fo_val (fe_op2 (op2_ix _) (pe_ix ix_seq (fo_pk (pv 0)) (fo_val (fe_c pe_int (.int 0) (fun _ => rfl))) (fun _ _ => rfl)))) (fo_val (fe_c pe_str (.str "not") (fun _ => rfl))) (nomark _))) (fss_one (fs_ret (fe_not (pe_not (fe_call (pe_callS ih (hr.mono (by omega)) (by rfl) T.mg_is_so T.kp_is_so T.b_is_so (fun σ => passAt tk σ) (fa_cons (fo_val (fe_op2 (op2_ix _) (pe_ix ix_seq (fo_pk (pv 0)) (fo_val (fe_c pe_int (.int 1) (fun _ => rfl))) (fun _ _ => rfl)))) (fa_cons (fo_val (fe_var (pv 1))) (fa_cons (fo_pk (pv 2)) (fa_nil))))) rfl))))) (fss_nil)) (fss_cons (fs_par (ps_par (i := 3) (j := 4) rfl sc_is_so.nd rfl rfl (by decide) rfl rfl (pa_cons (fe_call (pe_callS (ok_told T base 25) (hr.mono (by omega)) (by rfl) T.mg_told T.kp_told T.b_told (fun σ => passAt tk σ) (fa_cons (fo_val (fe_op2 (op2_ix _) (pe_ix ix_seq (fo_pk (pv 0)) (fo_val (fe_c pe_int (.int 1) (fun _ => rfl))) (fun _ _ => rfl)))) (fa_cons (fo_val (fe_var (pv 1))) (fa_cons (fo_pk (pv 2)) (fa_nil))))) rfl) (pa_cons (fe_call (pe_callS (ok_told T base 25) (hr.mono (by omega)) (by rfl) T.mg_told T.kp_told T.b_told (fun σ => passAt tk σ) (fa_cons (fo_val (fe_op2 (op2_ix _) (pe_ix ix_seq (fo_pk (pv 0)) (fo_val (fe_c pe_int (.int 2) (fun _ => rfl))) (fun _ _ => rfl)))) (fa_cons (fo_val (fe_var (pv 1))) (fa_cons (fo_pk (pv 2)) (fa_nil))))) rfl) pa_nil)) (by rfl))) (fss_cons (fs_if (ft_op2 (op2_eq _) (pt_cmpR (op_eqD hr.units) (fo_val (fe_op2 (op2_ix _) (pe_ix ix_seq (fo_pk (pv 0)) (fo_val (fe_c pe_int (.int 0) (fun _ => rfl))) (fun _ _ => rfl)))) (fo_val (fe_c pe_str (.str "same") (fun _ => rfl))) (nomark _))) (fss_one (fs_ret (fe_op2 (op2_eq _) (pe_cmpR (op_eqD hr.units) (fo_pk (pv 3)) (fo_pk (pv 4)) (nomark _))))) (fss_nil)) (fss_one (fs_ret (fe_if (ft_op2 (op2_eq _) (pt_cmpR (op_eqD hr.units) (fo_val (fe_op2 (op2_ix _) (pe_ix ix_seq (fo_pk (pv 0)) (fo_val (fe_c pe_int (.int 0) (fun _ => rfl))) (fun _ _ => rfl)))) (fo_val (fe_c pe_str (.str "ahead") (fun _ => rfl))) (nomark _))) (fe_op2 (op2_lt _) (pe_cmpR (opr_lt hr.units) (fo_pk (pv 3)) (fo_pk (pv 4)) (nomark _))) (fe_op2 (op2_in _) (pe_cmpR (opr_in (units65 hr)) (fo_pk (pv 3)) (fo_pk (pv 4)) (by rfl))))))))
theorem ok_is_so (T : Txt w K mg a) (base : Heap) : ∀ n, FnOk P w K mg base (L2.CX P w) (27 + n) a.a_is_so a.d_is_so ["condition", "row", "meanings"] (spF (gm K a) 3 (sem_is_so n))
  | 0 => fn0_ok 3 rfl
  | m + 1 => okS_is_so T base m (ok_is_so T base m)
theorem sc__law_is_so : FnScope N__law_is_so ["c", "row", "names"] (defScope s__law_is_so) := ⟨rfl, rfl, rfl, by decide +kernel, rfl, by decide +kernel, by decide +kernel⟩
theorem okS__law_is_so (T : Txt w K mg a) (base : Heap) (m : Nat) (ih : FnOk P w K mg base (L2.CX P w) (27 + m) a.a__law_is_so a.d__law_is_so ["c", "row", "names"] (spF (gm K a) 3 (sem__law_is_so m))) : FnOk P w K mg base (L2.CX P w) (27 + m + 1) a.a__law_is_so a.d__law_is_so ["c", "row", "names"] (spF (gm K a) 3 (sem__law_is_so (m + 1))) := by
  refine fn_ok (k := 27 + m) T.f__law_is_so sc__law_is_so (body__law_is_so (sem__law_is_so m)) 3 rfl 5 rfl fun cdv A outer sh H E hr => ?_
  have tk : Takes (cxOf (L2.CX P w) P w K mg base N__law_is_so "_law_is_so" (defScope s__law_is_so) a.a__law_is_so cdv A outer sh H E) (fun cls d _ H => E cls d H) := takes_of rfl rfl rfl rfl
  exact fss_cons (fs_if (ft_op2 (op2_eq _) (pt_cmpR (op_eqD hr.units) (fo_val (fe_op2 (op2_ix _) (pe_ix ix_seq (fo_pk (pv 0)) (fo_val (fe_c pe_int (.int 0) (fun _ => rfl))) (fun _ _ => rfl)))) (fo_val (fe_c pe_str (.str "not") (fun _ => rfl))) (nomark _))) (fss_one (fs_ret (fe_not (pe_not (fe_call (pe_callS ih (hr.mono (by omega)) (by rfl) T.mg__law_is_so T.kp__law_is_so T.b__law_is_so (fun σ => passAt tk σ) (fa_cons (fo_val (fe_op2 (op2_ix _) (pe_ix ix_seq (fo_pk (pv 0)) (fo_val (fe_c pe_int (.int 1) (fun _ => rfl))) (fun _ _ => rfl)))) (fa_cons (fo_val (fe_var (pv 1))) (fa_cons (fo_pk (pv 2)) (fa_nil))))) rfl))))) (fss_nil)) (fss_cons (fs_set (ps_set (i := 3) sc__law_is_so.nd rfl (Or.inl rfl) (fe_call (pe_callS (ok__law_value T base 25) (hr.mono (by omega)) (by rfl) T.mg__law_value T.kp__law_value T.b__law_value (fun σ => passAt tk σ) (fa_cons (fo_val (fe_op2 (op2_ix _) (pe_ix ix_seq (fo_pk (pv 0)) (fo_val (fe_c pe_int (.int 1) (fun _ => rfl))) (fun _ _ => rfl)))) (fa_cons (fo_val (fe_var (pv 1))) (fa_cons (fo_pk (pv 2)) (fa_nil))))) rfl))) (fss_cons (fs_set (ps_set (i := 4) sc__law_is_so.nd rfl (Or.inl rfl) (fe_call (pe_callS (ok__law_value T base 25) (hr.mono (by omega)) (by rfl) T.mg__law_value T.kp__law_value T.b__law_value (fun σ => passAt tk σ) (fa_cons (fo_val (fe_op2 (op2_ix _) (pe_ix ix_seq (fo_pk (pv 0)) (fo_val (fe_c pe_int (.int 2) (fun _ => rfl))) (fun _ _ => rfl)))) (fa_cons (fo_val (fe_var (pv 1))) (fa_cons (fo_pk (pv 2)) (fa_nil))))) rfl))) (fss_cons (fs_if (ft_op2 (op2_eq _) (pt_cmpR (op_eqD hr.units) (fo_val (fe_op2 (op2_ix _) (pe_ix ix_seq (fo_pk (pv 0)) (fo_val (fe_c pe_int (.int 0) (fun _ => rfl))) (fun _ _ => rfl)))) (fo_val (fe_c pe_str (.str "same") (fun _ => rfl))) (nomark _))) (fss_one (fs_ret (fe_op2 (op2_eq _) (pe_cmpR (op_eqD hr.units) (fo_pk (pv 3)) (fo_pk (pv 4)) (nomark _))))) (fss_nil)) (fss_cons (fs_if (ft_op2 (op2_eq _) (pt_cmpR (op_eqD hr.units) (fo_val (fe_op2 (op2_ix _) (pe_ix ix_seq (fo_pk (pv 0)) (fo_val (fe_c pe_int (.int 0) (fun _ => rfl))) (fun _ _ => rfl)))) (fo_val (fe_c pe_str (.str "ahead") (fun _ => rfl))) (nomark _))) (fss_one (fs_ret (fe_op2 (op2_lt _) (pe_cmpR (opr_lt hr.units) (fo_pk (pv 3)) (fo_pk (pv 4)) (nomark _))))) (fss_nil)) (fss_one (fs_ret (fe_op2 (op2_in _) (pe_cmpR (opr_in (units65 hr)) (fo_pk (pv 3)) (fo_pk (pv 4)) (by rfl)))))))))
theorem ok__law_is_so (T : Txt w K mg a) (base : Heap) : ∀ n, FnOk P w K mg base (L2.CX P w) (27 + n) a.a__law_is_so a.d__law_is_so ["c", "row", "names"] (spF (gm K a) 3 (sem__law_is_so n))
  | 0 => fn0_ok 3 rfl
  | m + 1 => okS__law_is_so T base m (ok__law_is_so T base m)
theorem sc__law_c : FnScope N__law_c ["hand", "pool", "room", "deep"] (defScope s__law_c) := ⟨rfl, rfl, rfl, by decide +kernel, rfl, by decide +kernel, by decide +kernel⟩
theorem okS__law_c (T : Txt w K mg a) (base : Heap) (m : Nat) (ih : FnOk P w K mg base (L2.CX P w) (30 + m) a.a__law_c a.d__law_c ["hand", "pool", "room", "deep"] (spF (gm K a) 4 (sem__law_c m))) : FnOk P w K mg base (L2.CX P w) (30 + m + 1) a.a__law_c a.d__law_c ["hand", "pool", "room", "deep"] (spF (gm K a) 4 (sem__law_c (m + 1))) := by
  refine fn_ok (k := 30 + m) T.f__law_c sc__law_c (body__law_c (sem__law_c m)) 4 rfl 6 rfl fun cdv A outer sh H E hr => ?_
  have tk : Takes (cxOf (L2.CX P w) P w K mg base N__law_c "_law_c" (defScope s__law_c) a.a__law_c cdv A outer sh H E) (fun cls d _ H => E cls d H) := takes_of rfl rfl rfl rfl
  exact fss_cons (fs_setIx (ps_asg (fe_op2 (op2_sub _) (pe_op op_sub (fo_val (fe_op2 (op2_ix _) (pe_ix ix_seq (fo_pk (pv 2)) (fo_val (fe_c pe_int (.int 0) (fun _ => rfl))) (fun _ _ => rfl)))) (fo_val (fe_c pe_int (.int 1) (fun _ => rfl))))) (pg_sub (fo_pk (pv 2)) (fe_c pe_int (.int 0) (fun _ => rfl)) set_list))) (fss_cons (fs_set (ps_set (i := 4) sc__law_c.nd rfl (Or.inl rfl) (fe_call (pe_callS (ok__law_draw T base) (hr.mono (by omega)) (by rfl) T.mg__law_draw T.kp__law_draw T.b__law_draw (fun σ => passAt tk σ) (fa_cons (fo_pk (pv 0)) (fa_cons (fo_val (fe_c pe_int (.int 8) (fun _ => rfl))) (fa_nil)))) rfl))) (fss_cons (fs_if (PW.pt (fw_and (ft_op2 (op2_lt _) (pt_cmpR (opr_lt hr.units) (fo_pk (pv 4)) (fo_val (fe_c pe_int (.int 2) (fun _ => rfl))) (nomark _))) (fw_and (ft_op2 (op2_gt _) (pt_cmpR opr_gt (fo_val (fe_op2 (op2_ix _) (pe_ix ix_seq (fo_pk (pv 2)) (fo_val (fe_c pe_int (.int 0) (fun _ => rfl))) (fun _ _ => rfl)))) (fo_val (fe_c pe_int (.int 0) (fun _ => rfl))) (nomark _))) (fw_and1 (ft_op2 (op2_gt _) (pt_cmpR opr_gt (fo_pk (pv 3)) (fo_val (fe_c pe_int (.int 2) (fun _ => rfl))) (nomark _))))))) (fss_one (fs_ret (fe_tup (pe_tup (fa_cons (fo_val (fe_c pe_str (.str "not") (fun _ => rfl))) (fa_cons (fo_val (fe_call (pe_callS ih (hr.mono (by omega)) (by rfl) T.mg__law_c T.kp__law_c T.b__law_c (fun σ => passAt tk σ) (fa_cons (fo_pk (pv 0)) (fa_cons (fo_val (fe_var (pv 1))) (fa_cons (fo_pk (pv 2)) (fa_cons (fo_val (fe_op2 (op2_sub _) (pe_op op_sub (fo_pk (pv 3)) (fo_val (fe_c pe_int (.int 1) (fun _ => rfl)))))) (fa_nil)))))) rfl)) (fa_nil))))))) (fss_nil)) (fss_cons (fs_set (ps_set (i := 5) sc__law_c.nd rfl (Or.inl rfl) (fe_call (pe_callS (ok__law_e T base 25) (hr.mono (by omega)) (by rfl) T.mg__law_e T.kp__law_e T.b__law_e (fun σ => passAt tk σ) (fa_cons (fo_pk (pv 0)) (fa_cons (fo_val (fe_var (pv 1))) (fa_cons (fo_pk (pv 2)) (fa_cons (fo_val (fe_op2 (op2_sub _) (pe_op op_sub (fo_pk (pv 3)) (fo_val (fe_c pe_int (.int 1) (fun _ => rfl)))))) (fa_nil)))))) rfl))) (fss_one (fs_ret (fe_tup (pe_tup (fa_cons (fo_val (fe_call (pe_callS (ok__law_pick T base) (hr.mono (by omega)) (by rfl) T.mg__law_pick T.kp__law_pick T.b__law_pick (fun σ => passAt tk σ) (fa_cons (fo_pk (pv 0)) (fa_cons (fo_val (fe_fn (fn_lst (pe_lst (fa_cons (fo_val (fe_c pe_str (.str "same") (fun _ => rfl))) (fa_cons (fo_val (fe_c pe_str (.str "ahead") (fun _ => rfl))) (fa_cons (fo_val (fe_c pe_str (.str "in") (fun _ => rfl))) (fa_nil)))))))) (fa_nil)))) rfl)) (fa_cons (fo_val (fe_var (pv 5))) (fa_cons (fo_val (fe_call (pe_callS (ok__law_e T base 25) (hr.mono (by omega)) (by rfl) T.mg__law_e T.kp__law_e T.b__law_e (fun σ => passAt tk σ) (fa_cons (fo_pk (pv 0)) (fa_cons (fo_val (fe_var (pv 1))) (fa_cons (fo_pk (pv 2)) (fa_cons (fo_val (fe_op2 (op2_sub _) (pe_op op_sub (fo_pk (pv 3)) (fo_val (fe_c pe_int (.int 1) (fun _ => rfl)))))) (fa_nil)))))) rfl)) (fa_nil)))))))))))
theorem ok__law_c (T : Txt w K mg a) (base : Heap) : ∀ n, FnOk P w K mg base (L2.CX P w) (30 + n) a.a__law_c a.d__law_c ["hand", "pool", "room", "deep"] (spF (gm K a) 4 (sem__law_c n))
  | 0 => fn0_ok 4 rfl
  | m + 1 => okS__law_c T base m (ok__law_c T base m)
theorem sc_said_each : FnScope N_said_each ["statement", "row", "meanings"] (defScope s_said_each) := ⟨rfl, rfl, rfl, by decide +kernel, rfl, by decide +kernel, by decide +kernel⟩
theorem sc_said : FnScope N_said ["body", "row", "meanings"] (defScope s_said) := ⟨rfl, rfl, rfl, by decide +kernel, rfl, by decide +kernel, by decide +kernel⟩
theorem okS_said_each (T : Txt w K mg a) (base : Heap) (m : Nat) (ih_said_each : FnOk P w K mg base (L2.CX P w) (53 + m) a.a_said_each a.d_said_each ["statement", "row", "meanings"] (spF (gm K a) 3 (sem_said_each m))) (ih_said : FnOk P w K mg base (L2.CX P w) (53 + m) a.a_said a.d_said ["body", "row", "meanings"] (spF (gm K a) 3 (sem_said m))) : FnOk P w K mg base (L2.CX P w) (53 + m + 1) a.a_said_each a.d_said_each ["statement", "row", "meanings"] (spF (gm K a) 3 (sem_said_each (m + 1))) := by
  refine fn_ok (k := 53 + m) T.f_said_each sc_said_each (body_said_each (sem_said_each m) (sem_said m)) 3 rfl 5 rfl fun cdv A outer sh H E hr => ?_
  have tk : Takes (cxOf (L2.CX P w) P w K mg base N_said_each "said_each" (defScope s_said_each) a.a_said_each cdv A outer sh H E) (fun cls d _ H => E cls d H) := takes_of rfl rfl rfl rfl
  exact fss_cons (fs_for (ps_for (passes_of rfl) rfl (fi_any rfl (pi_any (fe_var (pv 1)))) (fg_name (pg_name (i := 3) sc_said_each.nd rfl (Or.inl rfl))) (fss_cons (fs_setK (ps_asg (fe_var (pv 3)) (pg_sub (fo_pk (pv 2)) (fe_op2 (op2_ix _) (pe_ix ix_seq (fo_pk (pv 0)) (fo_val (fe_c pe_int (.int 1) (fun _ => rfl))) (fun _ _ => rfl))) (set_dict (unit1 hr.units))))) (fss_cons (fs_set (ps_set (i := 4) sc_said_each.nd rfl (Or.inl rfl) (fe_call (pe_callS ih_said (hr.mono (by omega)) (by rfl) T.mg_said T.kp_said T.b_said (fun σ => passAt tk σ) (fa_cons (fo_val (fe_op2 (op2_ix _) (pe_ix ix_seq (fo_pk (pv 0)) (fo_val (fe_c pe_int (.int 2) (fun _ => rfl))) (fun _ _ => rfl)))) (fa_cons (fo_val (fe_var (pv 1))) (fa_cons (fo_pk (pv 2)) (fa_nil))))) rfl))) (fss_one (fs_if (ft_op2 (op2_notN _) (pt_cmpR op_notN (fo_pk (pv 4)) (fo_val (fe_c pe_non .non (fun _ => rfl))) (nomark _))) (fss_one (fs_ret (fe_var (pv 4)))) (fss_nil))))))) (fss_one (fs_ret (fe_c pe_non .non (fun _ => rfl))))
theorem okS_said (T : Txt w K mg a) (base : Heap) (m : Nat) (ih_said_each : FnOk P w K mg base (L2.CX P w) (53 + m) a.a_said_each a.d_said_each ["statement", "row", "meanings"] (spF (gm K a) 3 (sem_said_each m))) (ih_said : FnOk P w K mg base (L2.CX P w) (53 + m) a.a_said a.d_said ["body", "row", "meanings"] (spF (gm K a) 3 (sem_said m))) : FnOk P w K mg base (L2.CX P w) (53 + m + 1) a.a_said a.d_said ["body", "row", "meanings"] (spF (gm K a) 3 (sem_said (m + 1))) := by
  refine fn_ok (k := 53 + m) T.f_said sc_said (body_said (sem_said_each m) (sem_said m)) 3 rfl 5 rfl fun cdv A outer sh H E hr => ?_
  have tk : Takes (cxOf (L2.CX P w) P w K mg base N_said "said" (defScope s_said) a.a_said cdv A outer sh H E) (fun cls d _ H => E cls d H) := takes_of rfl rfl rfl rfl
  exact fss_cons (fs_for (ps_for (passes_of rfl) rfl (fi_any rfl (pi_any (fe_var (pv 0)))) (fg_name (pg_name (i := 3) sc_said.nd rfl (Or.inl rfl))) (fss_cons (fs_set (ps_set (i := 4) sc_said.nd rfl (Or.inl rfl) (fe_c pe_non .non (fun _ => rfl)))) (fss_cons (fs_if (ft_op2 (op2_eq _) (pt_cmpR (op_eqD hr.units) (fo_val (fe_op2 (op2_ix _) (pe_ix ix_seq (fo_pk (pv 3)) (fo_val (fe_c pe_int (.int 0) (fun _ => rfl))) (fun _ _ => rfl)))) (fo_val (fe_c pe_str (.str "say") (fun _ => rfl))) (nomark _))) (fss_one (fs_set (ps_set (i := 4) sc_said.nd rfl (Or.inl rfl) (fe_call (pe_callS (ok_told T base 25) (hr.mono (by omega)) (by rfl) T.mg_told T.kp_told T.b_told (fun σ => passAt tk σ) (fa_cons (fo_val (fe_op2 (op2_ix _) (pe_ix ix_seq (fo_pk (pv 3)) (fo_val (fe_c pe_int (.int 1) (fun _ => rfl))) (fun _ _ => rfl)))) (fa_cons (fo_val (fe_var (pv 1))) (fa_cons (fo_pk (pv 2)) (fa_nil))))) rfl)))) (fss_one (fs_if (ft_op2 (op2_eq _) (pt_cmpR (op_eqD hr.units) (fo_val (fe_op2 (op2_ix _) (pe_ix ix_seq (fo_pk (pv 3)) (fo_val (fe_c pe_int (.int 0) (fun _ => rfl))) (fun _ _ => rfl)))) (fo_val (fe_c pe_str (.str "let") (fun _ => rfl))) (nomark _))) (fss_one (fs_setK (ps_asg (fe_call (pe_callS (ok_told T base 25) (hr.mono (by omega)) (by rfl) T.mg_told T.kp_told T.b_told (fun σ => passAt tk σ) (fa_cons (fo_val (fe_op2 (op2_ix _) (pe_ix ix_seq (fo_pk (pv 3)) (fo_val (fe_c pe_int (.int 2) (fun _ => rfl))) (fun _ _ => rfl)))) (fa_cons (fo_val (fe_var (pv 1))) (fa_cons (fo_pk (pv 2)) (fa_nil))))) rfl) (pg_sub (fo_pk (pv 2)) (fe_op2 (op2_ix _) (pe_ix ix_seq (fo_pk (pv 3)) (fo_val (fe_c pe_int (.int 1) (fun _ => rfl))) (fun _ _ => rfl))) (set_dict (unit1 hr.units)))))) (fss_one (fs_if (ft_op2 (op2_eq _) (pt_cmpR (op_eqD hr.units) (fo_val (fe_op2 (op2_ix _) (pe_ix ix_seq (fo_pk (pv 3)) (fo_val (fe_c pe_int (.int 0) (fun _ => rfl))) (fun _ _ => rfl)))) (fo_val (fe_c pe_str (.str "if") (fun _ => rfl))) (nomark _))) (fss_one (fs_set (ps_set (i := 4) sc_said.nd rfl (Or.inl rfl) (fe_call (pe_callS ih_said (hr.mono (by omega)) (by rfl) T.mg_said T.kp_said T.b_said (fun σ => passAt tk σ) (fa_cons (fo_val (fe_if (ft_val (pt_val (fe_call (pe_callS (ok_is_so T base 25) (hr.mono (by omega)) (by rfl) T.mg_is_so T.kp_is_so T.b_is_so (fun σ => passAt tk σ) (fa_cons (fo_val (fe_op2 (op2_ix _) (pe_ix ix_seq (fo_pk (pv 3)) (fo_val (fe_c pe_int (.int 1) (fun _ => rfl))) (fun _ _ => rfl)))) (fa_cons (fo_val (fe_var (pv 1))) (fa_cons (fo_pk (pv 2)) (fa_nil))))) rfl))) (fe_op2 (op2_ix _) (pe_ix ix_seq (fo_pk (pv 3)) (fo_val (fe_c pe_int (.int 2) (fun _ => rfl))) (fun _ _ => rfl))) (fe_op2 (op2_ix _) (pe_ix ix_seq (fo_pk (pv 3)) (fo_val (fe_c pe_int (.int 3) (fun _ => rfl))) (fun _ _ => rfl))))) (fa_cons (fo_val (fe_var (pv 1))) (fa_cons (fo_pk (pv 2)) (fa_nil))))) rfl)))) (fss_one (fs_set (ps_set (i := 4) sc_said.nd rfl (Or.inl rfl) (fe_call (pe_callS ih_said_each (hr.mono (by omega)) (by rfl) T.mg_said_each T.kp_said_each T.b_said_each (fun σ => passAt tk σ) (fa_cons (fo_val (fe_var (pv 3))) (fa_cons (fo_val (fe_var (pv 1))) (fa_cons (fo_pk (pv 2)) (fa_nil))))) rfl))))))))) (fss_one (fs_if (ft_op2 (op2_notN _) (pt_cmpR op_notN (fo_pk (pv 4)) (fo_val (fe_c pe_non .non (fun _ => rfl))) (nomark _))) (fss_one (fs_ret (fe_var (pv 4)))) (fss_nil))))))) (fss_one (fs_ret (fe_c pe_non .non (fun _ => rfl))))
theorem okg_said_each (T : Txt w K mg a) (base : Heap) : ∀ n, FnOk P w K mg base (L2.CX P w) (53 + n) a.a_said_each a.d_said_each ["statement", "row", "meanings"] (spF (gm K a) 3 (sem_said_each n)) ∧ FnOk P w K mg base (L2.CX P w) (53 + n) a.a_said a.d_said ["body", "row", "meanings"] (spF (gm K a) 3 (sem_said n))
  | 0 => ⟨fn0_ok 3 rfl, fn0_ok 3 rfl⟩
  | m + 1 => ⟨okS_said_each T base m (okg_said_each T base m).1 (okg_said_each T base m).2, okS_said T base m (okg_said_each T base m).1 (okg_said_each T base m).2⟩
theorem ok_said_each (T : Txt w K mg a) (base : Heap) (n : Nat) : FnOk P w K mg base (L2.CX P w) (53 + n) a.a_said_each a.d_said_each ["statement", "row", "meanings"] (spF (gm K a) 3 (sem_said_each n)) := (okg_said_each T base n).1
theorem ok_said (T : Txt w K mg a) (base : Heap) (n : Nat) : FnOk P w K mg base (L2.CX P w) (53 + n) a.a_said a.d_said ["body", "row", "meanings"] (spF (gm K a) 3 (sem_said n)) := (okg_said_each T base n).2
theorem sc__law_run : FnScope N__law_run ["statements", "row", "names"] (defScope s__law_run) := ⟨rfl, rfl, rfl, by decide +kernel, rfl, by decide +kernel, by decide +kernel⟩
theorem okS__law_run (T : Txt w K mg a) (base : Heap) (m : Nat) (ih : FnOk P w K mg base (L2.CX P w) (53 + m) a.a__law_run a.d__law_run ["statements", "row", "names"] (spF (gm K a) 3 (sem__law_run m))) : FnOk P w K mg base (L2.CX P w) (53 + m + 1) a.a__law_run a.d__law_run ["statements", "row", "names"] (spF (gm K a) 3 (sem__law_run (m + 1))) := by
  refine fn_ok (k := 53 + m) T.f__law_run sc__law_run (body__law_run (sem__law_run m)) 3 rfl 7 rfl fun cdv A outer sh H E hr => ?_
  have tk : Takes (cxOf (L2.CX P w) P w K mg base N__law_run "_law_run" (defScope s__law_run) a.a__law_run cdv A outer sh H E) (fun cls d _ H => E cls d H) := takes_of rfl rfl rfl rfl
  exact fss_cons (fs_for (ps_for (passes_of rfl) rfl (fi_any rfl (pi_any (fe_var (pv 0)))) (fg_name (pg_name (i := 3) sc__law_run.nd rfl (Or.inl rfl))) (fss_cons (fs_set (ps_set (i := 4) sc__law_run.nd rfl (Or.inl rfl) (fe_c pe_non .non (fun _ => rfl)))) (fss_cons (fs_if (ft_op2 (op2_eq _) (pt_cmpR (op_eqD hr.units) (fo_val (fe_op2 (op2_ix _) (pe_ix ix_seq (fo_pk (pv 3)) (fo_val (fe_c pe_int (.int 0) (fun _ => rfl))) (fun _ _ => rfl)))) (fo_val (fe_c pe_str (.str "say") (fun _ => rfl))) (nomark _))) (fss_one (fs_ret (fe_call (pe_callS (ok__law_value T base 25) (hr.mono (by omega)) (by rfl) T.mg__law_value T.kp__law_value T.b__law_value (fun σ => passAt tk σ) (fa_cons (fo_val (fe_op2 (op2_ix _) (pe_ix ix_seq (fo_pk (pv 3)) (fo_val (fe_c pe_int (.int 1) (fun _ => rfl))) (fun _ _ => rfl)))) (fa_cons (fo_val (fe_var (pv 1))) (fa_cons (fo_pk (pv 2)) (fa_nil))))) rfl))) (fss_nil)) (fss_cons (fs_if (ft_op2 (op2_eq _) (pt_cmpR (op_eqD hr.units) (fo_val (fe_op2 (op2_ix _) (pe_ix ix_seq (fo_pk (pv 3)) (fo_val (fe_c pe_int (.int 0) (fun _ => rfl))) (fun _ _ => rfl)))) (fo_val (fe_c pe_str (.str "let") (fun _ => rfl))) (nomark _))) (fss_one (fs_setK (ps_asg (fe_call (pe_callS (ok__law_value T base 25) (hr.mono (by omega)) (by rfl) T.mg__law_value T.kp__law_value T.b__law_value (fun σ => passAt tk σ) (fa_cons (fo_val (fe_op2 (op2_ix _) (pe_ix ix_seq (fo_pk (pv 3)) (fo_val (fe_c pe_int (.int 2) (fun _ => rfl))) (fun _ _ => rfl)))) (fa_cons (fo_val (fe_var (pv 1))) (fa_cons (fo_pk (pv 2)) (fa_nil))))) rfl) (pg_sub (fo_pk (pv 2)) (fe_op2 (op2_ix _) (pe_ix ix_seq (fo_pk (pv 3)) (fo_val (fe_c pe_int (.int 1) (fun _ => rfl))) (fun _ _ => rfl))) (set_dict (unit1 hr.units)))))) (fss_one (fs_if (ft_op2 (op2_eq _) (pt_cmpR (op_eqD hr.units) (fo_val (fe_op2 (op2_ix _) (pe_ix ix_seq (fo_pk (pv 3)) (fo_val (fe_c pe_int (.int 0) (fun _ => rfl))) (fun _ _ => rfl)))) (fo_val (fe_c pe_str (.str "if") (fun _ => rfl))) (nomark _))) (fss_cons (fs_set (ps_set (i := 5) sc__law_run.nd rfl (Or.inl rfl) (fe_if (ft_val (pt_val (fe_call (pe_callS (ok__law_is_so T base 25) (hr.mono (by omega)) (by rfl) T.mg__law_is_so T.kp__law_is_so T.b__law_is_so (fun σ => passAt tk σ) (fa_cons (fo_val (fe_op2 (op2_ix _) (pe_ix ix_seq (fo_pk (pv 3)) (fo_val (fe_c pe_int (.int 1) (fun _ => rfl))) (fun _ _ => rfl)))) (fa_cons (fo_val (fe_var (pv 1))) (fa_cons (fo_pk (pv 2)) (fa_nil))))) rfl))) (fe_op2 (op2_ix _) (pe_ix ix_seq (fo_pk (pv 3)) (fo_val (fe_c pe_int (.int 2) (fun _ => rfl))) (fun _ _ => rfl))) (fe_op2 (op2_ix _) (pe_ix ix_seq (fo_pk (pv 3)) (fo_val (fe_c pe_int (.int 3) (fun _ => rfl))) (fun _ _ => rfl)))))) (fss_one (fs_set (ps_set (i := 4) sc__law_run.nd rfl (Or.inl rfl) (fe_call (pe_callS ih (hr.mono (by omega)) (by rfl) T.mg__law_run T.kp__law_run T.b__law_run (fun σ => passAt tk σ) (fa_cons (fo_val (fe_var (pv 5))) (fa_cons (fo_val (fe_var (pv 1))) (fa_cons (fo_pk (pv 2)) (fa_nil))))) rfl))))) (fss_one (fs_for (ps_for (passes_of rfl) rfl (fi_any rfl (pi_any (fe_var (pv 1)))) (fg_name (pg_name (i := 6) sc__law_run.nd rfl (Or.inl rfl))) (fss_cons (fs_setK (ps_asg (fe_var (pv 6)) (pg_sub (fo_pk (pv 2)) (fe_op2 (op2_ix _) (pe_ix ix_seq (fo_pk (pv 3)) (fo_val (fe_c pe_int (.int 1) (fun _ => rfl))) (fun _ _ => rfl))) (set_dict (unit1 hr.units))))) (fss_cons (fs_set (ps_set (i := 4) sc__law_run.nd rfl (Or.inl rfl) (fe_call (pe_callS ih (hr.mono (by omega)) (by rfl) T.mg__law_run T.kp__law_run T.b__law_run (fun σ => passAt tk σ) (fa_cons (fo_val (fe_op2 (op2_ix _) (pe_ix ix_seq (fo_pk (pv 3)) (fo_val (fe_c pe_int (.int 2) (fun _ => rfl))) (fun _ _ => rfl)))) (fa_cons (fo_val (fe_var (pv 1))) (fa_cons (fo_pk (pv 2)) (fa_nil))))) rfl))) (fss_one (fs_if (ft_op2 (op2_notN _) (pt_cmpR op_notN (fo_pk (pv 4)) (fo_val (fe_c pe_non .non (fun _ => rfl))) (nomark _))) (fss_one (fs_ret (fe_var (pv 4)))) (fss_nil))))))))))) (fss_one (fs_if (ft_op2 (op2_notN _) (pt_cmpR op_notN (fo_pk (pv 4)) (fo_val (fe_c pe_non .non (fun _ => rfl))) (nomark _))) (fss_one (fs_ret (fe_var (pv 4)))) (fss_nil)))))))) (fss_one (fs_ret (fe_c pe_non .non (fun _ => rfl))))
theorem ok__law_run (T : Txt w K mg a) (base : Heap) : ∀ n, FnOk P w K mg base (L2.CX P w) (53 + n) a.a__law_run a.d__law_run ["statements", "row", "names"] (spF (gm K a) 3 (sem__law_run n))
  | 0 => fn0_ok 3 rfl
  | m + 1 => okS__law_run T base m (ok__law_run T base m)
theorem sc__law_statement : FnScope N__law_statement ["hand", "pool", "room", "deep", "loops"] (defScope s__law_statement) := ⟨rfl, rfl, rfl, by decide +kernel, rfl, by decide +kernel, by decide +kernel⟩
theorem sc__law_body : FnScope N__law_body ["hand", "pool", "room", "deep", "loops"] (defScope s__law_body) := ⟨rfl, rfl, rfl, by decide +kernel, rfl, by decide +kernel, by decide +kernel⟩
theorem okS__law_statement (T : Txt w K mg a) (base : Heap) (m : Nat) (ih__law_statement : FnOk P w K mg base (L2.CX P w) (56 + m) a.a__law_statement a.d__law_statement ["hand", "pool", "room", "deep", "loops"] (spF (gm K a) 5 (sem__law_statement m))) (ih__law_body : FnOk P w K mg base (L2.CX P w) (56 + m) a.a__law_body a.d__law_body ["hand", "pool", "room", "deep", "loops"] (spF (gm K a) 5 (sem__law_body m))) : FnOk P w K mg base (L2.CX P w) (56 + m + 1) a.a__law_statement a.d__law_statement ["hand", "pool", "room", "deep", "loops"] (spF (gm K a) 5 (sem__law_statement (m + 1))) := by
  refine fn_ok (k := 56 + m) T.f__law_statement sc__law_statement (body__law_statement (sem__law_statement m) (sem__law_body m)) 5 rfl 9 rfl fun cdv A outer sh H E hr => ?_
  have tk : Takes (cxOf (L2.CX P w) P w K mg base N__law_statement "_law_statement" (defScope s__law_statement) a.a__law_statement cdv A outer sh H E) (fun cls d _ H => E cls d H) := takes_of rfl rfl rfl rfl
  exact fss_cons (fs_setIx (ps_asg (fe_op2 (op2_sub _) (pe_op op_sub (fo_val (fe_op2 (op2_ix _) (pe_ix ix_seq (fo_pk (pv 2)) (fo_val (fe_c pe_int (.int 0) (fun _ => rfl))) (fun _ _ => rfl)))) (fo_val (fe_c pe_int (.int 1) (fun _ => rfl))))) (pg_sub (fo_pk (pv 2)) (fe_c pe_int (.int 0) (fun _ => rfl)) set_list))) (fss_cons (fs_set (ps_set (i := 5) sc__law_statement.nd rfl (Or.inl rfl) (fe_call (pe_callS (ok__law_draw T base) (hr.mono (by omega)) (by rfl) T.mg__law_draw T.kp__law_draw T.b__law_draw (fun σ => passAt tk σ) (fa_cons (fo_pk (pv 0)) (fa_cons (fo_val (fe_c pe_int (.int 12) (fun _ => rfl))) (fa_nil)))) rfl))) (fss_cons (fs_if (PW.pt (fw_and (ft_op2 (op2_lt _) (pt_cmpR (opr_lt hr.units) (fo_pk (pv 5)) (fo_val (fe_c pe_int (.int 3) (fun _ => rfl))) (nomark _))) (fw_and (ft_op2 (op2_gt _) (pt_cmpR opr_gt (fo_val (fe_op2 (op2_ix _) (pe_ix ix_seq (fo_pk (pv 2)) (fo_val (fe_c pe_int (.int 0) (fun _ => rfl))) (fun _ _ => rfl)))) (fo_val (fe_c pe_int (.int 0) (fun _ => rfl))) (nomark _))) (fw_and1 (ft_op2 (op2_gt _) (pt_cmpR opr_gt (fo_pk (pv 3)) (fo_val (fe_c pe_int (.int 2) (fun _ => rfl))) (nomark _))))))) (fss_cons (fs_set (ps_set (i := 7) sc__law_statement.nd rfl (Or.inl rfl) (fe_call (pe_callS (ok__law_c T base 25) (hr.mono (by omega)) (by rfl) T.mg__law_c T.kp__law_c T.b__law_c (fun σ => passAt tk σ) (fa_cons (fo_pk (pv 0)) (fa_cons (fo_val (fe_var (pv 1))) (fa_cons (fo_pk (pv 2)) (fa_cons (fo_val (fe_op2 (op2_sub _) (pe_op op_sub (fo_pk (pv 3)) (fo_val (fe_c pe_int (.int 1) (fun _ => rfl)))))) (fa_nil)))))) rfl))) (fss_cons (fs_set (ps_set (i := 8) sc__law_statement.nd rfl (Or.inl rfl) (fe_call (pe_callS ih__law_body (hr.mono (by omega)) (by rfl) T.mg__law_body T.kp__law_body T.b__law_body (fun σ => passAt tk σ) (fa_cons (fo_pk (pv 0)) (fa_cons (fo_val (fe_var (pv 1))) (fa_cons (fo_pk (pv 2)) (fa_cons (fo_val (fe_op2 (op2_sub _) (pe_op op_sub (fo_pk (pv 3)) (fo_val (fe_c pe_int (.int 1) (fun _ => rfl)))))) (fa_cons (fo_val (fe_var (pv 4))) (fa_nil))))))) rfl))) (fss_one (fs_ret (fe_tup (pe_tup (fa_cons (fo_val (fe_c pe_str (.str "if") (fun _ => rfl))) (fa_cons (fo_val (fe_var (pv 7))) (fa_cons (fo_val (fe_var (pv 8))) (fa_cons (fo_val (fe_call (pe_callS ih__law_body (hr.mono (by omega)) (by rfl) T.mg__law_body T.kp__law_body T.b__law_body (fun σ => passAt tk σ) (fa_cons (fo_pk (pv 0)) (fa_cons (fo_val (fe_var (pv 1))) (fa_cons (fo_pk (pv 2)) (fa_cons (fo_val (fe_op2 (op2_sub _) (pe_op op_sub (fo_pk (pv 3)) (fo_val (fe_c pe_int (.int 1) (fun _ => rfl)))))) (fa_cons (fo_val (fe_var (pv 4))) (fa_nil))))))) rfl)) (fa_nil))))))))))) (fss_nil)) (fss_cons (fs_if (PW.pt (fw_and (ft_op2 (op2_lt _) (pt_cmpR (opr_lt hr.units) (fo_pk (pv 5)) (fo_val (fe_c pe_int (.int 6) (fun _ => rfl))) (nomark _))) (fw_and (ft_op2 (op2_gt _) (pt_cmpR opr_gt (fo_val (fe_op2 (op2_ix _) (pe_ix ix_seq (fo_pk (pv 2)) (fo_val (fe_c pe_int (.int 0) (fun _ => rfl))) (fun _ _ => rfl)))) (fo_val (fe_c pe_int (.int 0) (fun _ => rfl))) (nomark _))) (fw_and1 (ft_op2 (op2_gt _) (pt_cmpR opr_gt (fo_pk (pv 4)) (fo_val (fe_c pe_int (.int 0) (fun _ => rfl))) (nomark _))))))) (fss_cons (fs_set (ps_set (i := 6) sc__law_statement.nd rfl (Or.inl rfl) (fe_call (pe_callS (ok__law_name T base) (hr.mono (by omega)) (by rfl) T.mg__law_name T.kp__law_name T.b__law_name (fun σ => passAt tk σ) (fa_cons (fo_pk (pv 0)) (fa_nil))) rfl))) (fss_one (fs_ret (fe_tup (pe_tup (fa_cons (fo_val (fe_c pe_str (.str "each") (fun _ => rfl))) (fa_cons (fo_val (fe_var (pv 6))) (fa_cons (fo_val (fe_call (pe_callS ih__law_body (hr.mono (by omega)) (by rfl) T.mg__law_body T.kp__law_body T.b__law_body (fun σ => passAt tk σ) (fa_cons (fo_pk (pv 0)) (fa_cons (fo_val (fe_var (pv 1))) (fa_cons (fo_pk (pv 2)) (fa_cons (fo_val (fe_op2 (op2_sub _) (pe_op op_sub (fo_pk (pv 3)) (fo_val (fe_c pe_int (.int 1) (fun _ => rfl)))))) (fa_cons (fo_val (fe_op2 (op2_sub _) (pe_op op_sub (fo_pk (pv 4)) (fo_val (fe_c pe_int (.int 1) (fun _ => rfl)))))) (fa_nil))))))) rfl)) (fa_nil))))))))) (fss_nil)) (fss_cons (fs_if (ft_op2 (op2_eq _) (pt_cmpR (op_eqD hr.units) (fo_pk (pv 5)) (fo_val (fe_c pe_int (.int 6) (fun _ => rfl))) (nomark _))) (fss_one (fs_ret (fe_tup (pe_tup (fa_cons (fo_val (fe_c pe_str (.str "say") (fun _ => rfl))) (fa_cons (fo_val (fe_call (pe_callS (ok__law_e T base 25) (hr.mono (by omega)) (by rfl) T.mg__law_e T.kp__law_e T.b__law_e (fun σ => passAt tk σ) (fa_cons (fo_pk (pv 0)) (fa_cons (fo_val (fe_var (pv 1))) (fa_cons (fo_pk (pv 2)) (fa_cons (fo_val (fe_op2 (op2_sub _) (pe_op op_sub (fo_pk (pv 3)) (fo_val (fe_c pe_int (.int 1) (fun _ => rfl)))))) (fa_nil)))))) rfl)) (fa_nil))))))) (fss_nil)) (fss_cons (fs_set (ps_set (i := 6) sc__law_statement.nd rfl (Or.inl rfl) (fe_call (pe_callS (ok__law_name T base) (hr.mono (by omega)) (by rfl) T.mg__law_name T.kp__law_name T.b__law_name (fun σ => passAt tk σ) (fa_cons (fo_pk (pv 0)) (fa_nil))) rfl))) (fss_one (fs_ret (fe_tup (pe_tup (fa_cons (fo_val (fe_c pe_str (.str "let") (fun _ => rfl))) (fa_cons (fo_val (fe_var (pv 6))) (fa_cons (fo_val (fe_call (pe_callS (ok__law_e T base 25) (hr.mono (by omega)) (by rfl) T.mg__law_e T.kp__law_e T.b__law_e (fun σ => passAt tk σ) (fa_cons (fo_pk (pv 0)) (fa_cons (fo_val (fe_var (pv 1))) (fa_cons (fo_pk (pv 2)) (fa_cons (fo_val (fe_op2 (op2_sub _) (pe_op op_sub (fo_pk (pv 3)) (fo_val (fe_c pe_int (.int 1) (fun _ => rfl)))))) (fa_nil)))))) rfl)) (fa_nil)))))))))))))
theorem okS__law_body (T : Txt w K mg a) (base : Heap) (m : Nat) (ih__law_statement : FnOk P w K mg base (L2.CX P w) (56 + m) a.a__law_statement a.d__law_statement ["hand", "pool", "room", "deep", "loops"] (spF (gm K a) 5 (sem__law_statement m))) (ih__law_body : FnOk P w K mg base (L2.CX P w) (56 + m) a.a__law_body a.d__law_body ["hand", "pool", "room", "deep", "loops"] (spF (gm K a) 5 (sem__law_body m))) : FnOk P w K mg base (L2.CX P w) (56 + m + 1) a.a__law_body a.d__law_body ["hand", "pool", "room", "deep", "loops"] (spF (gm K a) 5 (sem__law_body (m + 1))) := by
  refine fn_ok (k := 56 + m) T.f__law_body sc__law_body (body__law_body (sem__law_statement m) (sem__law_body m)) 5 rfl 7 rfl fun cdv A outer sh H E hr => ?_
  have tk : Takes (cxOf (L2.CX P w) P w K mg base N__law_body "_law_body" (defScope s__law_body) a.a__law_body cdv A outer sh H E) (fun cls d _ H => E cls d H) := takes_of rfl rfl rfl rfl
  exact fss_cons (fs_set (ps_set (i := 5) sc__law_body.nd rfl (Or.inl rfl) (fe_tup (pe_tup (fa_nil))))) (fss_cons (fs_for (ps_for (passes_of rfl) rfl (fi_range1 (pi_range1 (by rfl) T.b_range (fa_cons (fo_val (fe_call (pe_callS (ok__law_draw T base) (hr.mono (by omega)) (by rfl) T.mg__law_draw T.kp__law_draw T.b__law_draw (fun σ => passAt tk σ) (fa_cons (fo_pk (pv 0)) (fa_cons (fo_val (fe_c pe_int (.int 5) (fun _ => rfl))) (fa_nil)))) rfl)) (fa_nil)))) (fg_name (pg_name (i := 6) sc__law_body.nd rfl (Or.inl rfl))) (fss_one (fs_if (PW.pt (fw_and (ft_op2 (op2_gt _) (pt_cmpR opr_gt (fo_val (fe_op2 (op2_ix _) (pe_ix ix_seq (fo_pk (pv 2)) (fo_val (fe_c pe_int (.int 0) (fun _ => rfl))) (fun _ _ => rfl)))) (fo_val (fe_c pe_int (.int 0) (fun _ => rfl))) (nomark _))) (fw_and1 (ft_op2 (op2_gt _) (pt_cmpR opr_gt (fo_pk (pv 3)) (fo_val (fe_c pe_int (.int 1) (fun _ => rfl))) (nomark _)))))) (fss_one (fs_set (ps_set (i := 5) sc__law_body.nd rfl (Or.inl rfl) (fe_op2 (op2_add _) (pe_op opr_add (fo_pk (pv 5)) (fo_val (fe_tup (pe_tup (fa_cons (fo_val (fe_call (pe_callS ih__law_statement (hr.mono (by omega)) (by rfl) T.mg__law_statement T.kp__law_statement T.b__law_statement (fun σ => passAt tk σ) (fa_cons (fo_pk (pv 0)) (fa_cons (fo_val (fe_var (pv 1))) (fa_cons (fo_pk (pv 2)) (fa_cons (fo_val (fe_var (pv 3))) (fa_cons (fo_val (fe_var (pv 4))) (fa_nil))))))) rfl)) (fa_nil)))))))))) (fss_nil))))) (fss_one (fs_ret (fe_var (pv 5)))))
theorem okg__law_statement (T : Txt w K mg a) (base : Heap) : ∀ n, FnOk P w K mg base (L2.CX P w) (56 + n) a.a__law_statement a.d__law_statement ["hand", "pool", "room", "deep", "loops"] (spF (gm K a) 5 (sem__law_statement n)) ∧ FnOk P w K mg base (L2.CX P w) (56 + n) a.a__law_body a.d__law_body ["hand", "pool", "room", "deep", "loops"] (spF (gm K a) 5 (sem__law_body n))
  | 0 => ⟨fn0_ok 5 rfl, fn0_ok 5 rfl⟩
  | m + 1 => ⟨okS__law_statement T base m (okg__law_statement T base m).1 (okg__law_statement T base m).2, okS__law_body T base m (okg__law_statement T base m).1 (okg__law_statement T base m).2⟩
theorem ok__law_statement (T : Txt w K mg a) (base : Heap) (n : Nat) : FnOk P w K mg base (L2.CX P w) (56 + n) a.a__law_statement a.d__law_statement ["hand", "pool", "room", "deep", "loops"] (spF (gm K a) 5 (sem__law_statement n)) := (okg__law_statement T base n).1
theorem ok__law_body (T : Txt w K mg a) (base : Heap) (n : Nat) : FnOk P w K mg base (L2.CX P w) (56 + n) a.a__law_body a.d__law_body ["hand", "pool", "room", "deep", "loops"] (spF (gm K a) 5 (sem__law_body n)) := (okg__law_statement T base n).2
theorem sc__law_due : FnScope N__law_due ["statements", "row"] (defScope s__law_due) := ⟨rfl, rfl, rfl, by decide +kernel, rfl, by decide +kernel, by decide +kernel⟩
theorem ok__law_due (T : Txt w K mg a) (base : Heap) : FnOk P w K mg base (L2.CX P w) 99 a.a__law_due a.d__law_due ["statements", "row"] (spF (gm K a) 2 sem__law_due) := by
  refine fn_ok T.f__law_due sc__law_due body__law_due 2 rfl 3 rfl fun cdv A outer sh H E hr => ?_
  have tk : Takes (cxOf (L2.CX P w) P w K mg base N__law_due "_law_due" (defScope s__law_due) a.a__law_due cdv A outer sh H E) (fun cls d _ H => E cls d H) := takes_of rfl rfl rfl rfl
  exact fss_cons (fs_set (ps_set (i := 2) sc__law_due.nd rfl (Or.inl rfl) (fe_callD (pe_callS (ok__law_run T base 45) (hr.mono (by decide)) (by rfl) T.mg__law_run T.kp__law_run T.b__law_run (fun σ => passAt tk σ) (fa_consN (fo_val (fe_var (pv 0))) (fa_consN (fo_val (fe_var (pv 1))) (fa_new)))) rfl))) (fss_one (fs_ret (fe_if (ft_op2 (op2_isN _) (pt_cmpR op_isN (fo_pk (pv 2)) (fo_val (fe_c pe_non .non (fun _ => rfl))) (nomark _))) (fe_c pe_str (.str "") (fun _ => rfl)) (fe_var (pv 2)))))
theorem sc__law_program : FnScope N__law_program ["hand", "pool", "most", "loops"] (defScope s__law_program) := ⟨rfl, rfl, rfl, by decide +kernel, rfl, by decide +kernel, by decide +kernel⟩
theorem ok__law_program (T : Txt w K mg a) (base : Heap) : FnOk P w K mg base (L2.CX P w) 102 a.a__law_program a.d__law_program ["hand", "pool", "most", "loops"] (spF (gm K a) 4 sem__law_program) := by
  refine fn_ok T.f__law_program sc__law_program body__law_program 4 rfl 8 rfl fun cdv A outer sh H E hr => ?_
  have tk : Takes (cxOf (L2.CX P w) P w K mg base N__law_program "_law_program" (defScope s__law_program) a.a__law_program cdv A outer sh H E) (fun cls d _ H => E cls d H) := takes_of rfl rfl rfl rfl
  exact fss_cons (fs_setN (ps_set (i := 4) sc__law_program.nd rfl (Or.inl rfl) (fn_lst (pe_lst (fa_cons (fo_val (fe_var (pv 2))) (fa_nil)))))) (fss_cons (fs_set (ps_set (i := 5) sc__law_program.nd rfl (Or.inl rfl) (fe_call (pe_callS (ok__law_pick T base) (hr.mono (by decide)) (by rfl) T.mg__law_pick T.kp__law_pick T.b__law_pick (fun σ => passAt tk σ) (fa_cons (fo_pk (pv 0)) (fa_cons (fo_val (fe_fn (fn_lst (pe_lst (fa_cons (fo_val (fe_c pe_int (.int 20) (fun _ => rfl))) (fa_cons (fo_val (fe_c pe_int (.int 20) (fun _ => rfl))) (fa_cons (fo_val (fe_c pe_int (.int 6) (fun _ => rfl))) (fa_cons (fo_val (fe_c pe_int (.int 3) (fun _ => rfl))) (fa_nil))))))))) (fa_nil)))) rfl))) (fss_cons (fs_set (ps_set (i := 6) sc__law_program.nd rfl (Or.inl rfl) (fe_tup (pe_tup (fa_nil))))) (fss_cons (fs_for (ps_for (passes_of rfl) rfl (fi_range1 (pi_range1 (by rfl) T.b_range (fa_cons (fo_val (fe_op2 (op2_add _) (pe_op opr_add (fo_val (fe_c pe_int (.int 1) (fun _ => rfl))) (fo_val (fe_call (pe_callS (ok__law_draw T base) (hr.mono (by decide)) (by rfl) T.mg__law_draw T.kp__law_draw T.b__law_draw (fun σ => passAt tk σ) (fa_cons (fo_pk (pv 0)) (fa_cons (fo_val (fe_c pe_int (.int 8) (fun _ => rfl))) (fa_nil)))) rfl))))) (fa_nil)))) (fg_name (pg_name (i := 7) sc__law_program.nd rfl (Or.inl rfl))) (fss_one (fs_if (ft_op2 (op2_gt _) (pt_cmpR opr_gt (fo_val (fe_op2 (op2_ix _) (pe_ix ix_seq (fo_pk (pv 4)) (fo_val (fe_c pe_int (.int 0) (fun _ => rfl))) (fun _ _ => rfl)))) (fo_val (fe_c pe_int (.int 0) (fun _ => rfl))) (nomark _))) (fss_one (fs_set (ps_set (i := 6) sc__law_program.nd rfl (Or.inl rfl) (fe_op2 (op2_add _) (pe_op opr_add (fo_pk (pv 6)) (fo_val (fe_tup (pe_tup (fa_cons (fo_val (fe_call (pe_callS (ok__law_statement T base 45) (hr.mono (by decide)) (by rfl) T.mg__law_statement T.kp__law_statement T.b__law_statement (fun σ => passAt tk σ) (fa_cons (fo_pk (pv 0)) (fa_cons (fo_val (fe_var (pv 1))) (fa_cons (fo_pk (pv 4)) (fa_cons (fo_val (fe_var (pv 5))) (fa_cons (fo_val (fe_var (pv 3))) (fa_nil))))))) rfl)) (fa_nil)))))))))) (fss_nil))))) (fss_cons (fs_if (ft_op2 (op2_gt _) (pt_cmpR opr_gt (fo_val (fe_call (pe_callS (ok__law_draw T base) (hr.mono (by decide)) (by rfl) T.mg__law_draw T.kp__law_draw T.b__law_draw (fun σ => passAt tk σ) (fa_cons (fo_pk (pv 0)) (fa_cons (fo_val (fe_c pe_int (.int 3) (fun _ => rfl))) (fa_nil)))) rfl)) (fo_val (fe_c pe_int (.int 0) (fun _ => rfl))) (nomark _))) (fss_one (fs_set (ps_set (i := 6) sc__law_program.nd rfl (Or.inl rfl) (fe_op2 (op2_add _) (pe_op opr_add (fo_pk (pv 6)) (fo_val (fe_tup (pe_tup (fa_cons (fo_val (fe_tup (pe_tup (fa_cons (fo_val (fe_c pe_str (.str "say") (fun _ => rfl))) (fa_cons (fo_val (fe_call (pe_callS (ok__law_e T base 25) (hr.mono (by decide)) (by rfl) T.mg__law_e T.kp__law_e T.b__law_e (fun σ => passAt tk σ) (fa_cons (fo_pk (pv 0)) (fa_cons (fo_val (fe_var (pv 1))) (fa_cons (fo_pk (pv 4)) (fa_cons (fo_val (fe_op2 (op2_sub _) (pe_op op_sub (fo_pk (pv 5)) (fo_val (fe_c pe_int (.int 1) (fun _ => rfl)))))) (fa_nil)))))) rfl)) (fa_nil)))))) (fa_nil)))))))))) (fss_nil)) (fss_one (fs_ret (fe_var (pv 6))))))))
theorem sc_Program_word : FnScope N_Program_word ["self", "row"] (defScope s_Program_word) := ⟨rfl, rfl, rfl, by decide +kernel, rfl, by decide +kernel, by decide +kernel⟩
theorem ok_Program_word (T : Txt w K mg a) (base : Heap) : FnOk P w K mg base (L2.CX P w) 104 a.a_Program_word a.d_Program_word ["self", "row"] (spF (gm K a) 2 sem_Program_word) := by
  refine fn_ok T.f_Program_word sc_Program_word body_Program_word 2 rfl 3 rfl fun cdv A outer sh H E hr => ?_
  have tk : Takes (cxOf (L2.CX P w) P w K mg base N_Program_word "Program.word" (defScope s_Program_word) a.a_Program_word cdv A outer sh H E) (fun cls d _ H => E cls d H) := takes_of rfl rfl rfl rfl
  exact fss_cons (fs_if (ft_not (ft_val (pt_val (fe_call (pe_callS (ok_is_row T base) (hr.mono (by decide)) (by rfl) T.mg_is_row T.kp_is_row T.b_is_row (fun σ => passAt tk σ) (fa_cons (fo_val (fe_var (pv 1))) (fa_nil))) rfl)))) (fss_one (fs_never)) (fss_nil)) (fss_cons (fs_set (ps_set (i := 2) sc_Program_word.nd rfl (Or.inl rfl) (fe_callD (pe_callS (ok_said T base 50) (hr.mono (by decide)) (by rfl) T.mg_said T.kp_said T.b_said (fun σ => passAt tk σ) (fa_consN (fo_val (fe_fld rfl T.cl (T.na_statements) (pe_fld (fo_pk (pv 0)) rfl))) (fa_consN (fo_val (fe_var (pv 1))) (fa_new)))) rfl))) (fss_one (fs_ret (fe_if (ft_op2 (op2_isN _) (pt_cmpR op_isN (fo_pk (pv 2)) (fo_val (fe_c pe_non .non (fun _ => rfl))) (nomark _))) (fe_c pe_str (.str "") (fun _ => rfl)) (fe_var (pv 2))))))
theorem sc_asked : FnScope N_asked ["house", "row"] (defScope s_asked) := ⟨rfl, rfl, rfl, by decide +kernel, rfl, by decide +kernel, by decide +kernel⟩
theorem ok_asked (T : Txt w K mg a) (base : Heap) : FnOk P w K mg base (L2.CX P w) 105 a.a_asked a.d_asked ["house", "row"] (spF (gm K a) 2 sem_asked) := by
  refine fn_ok T.f_asked sc_asked body_asked 2 rfl 3 rfl fun cdv A outer sh H E hr => ?_
  have tk : Takes (cxOf (L2.CX P w) P w K mg base N_asked "asked" (defScope s_asked) a.a_asked cdv A outer sh H E) (fun cls d _ H => E cls d H) := takes_of rfl rfl rfl rfl
  exact fss_cons (fs_if (ft_not (ft_val (pt_val (fe_call (pe_callS (ok_is_row T base) (hr.mono (by decide)) (by rfl) T.mg_is_row T.kp_is_row T.b_is_row (fun σ => passAt tk σ) (fa_cons (fo_val (fe_var (pv 1))) (fa_nil))) rfl)))) (fss_one (fs_never)) (fss_nil)) (fss_cons (fs_set (ps_set (i := 2) sc_asked.nd rfl (Or.inl rfl) (fe_meth 0 (by decide) (by rfl) (pe_some (fun c hc => match c, hc with | 0, _ => pe_methE (fo_pk (pv 0)) (T.cl 0) T.me_Program_word (ok_Program_word T base) (hr.mono (by decide)) T.b_Program_word (fun σ => passAt tk σ) (fa_cons (fo_val (fe_var (pv 1))) (fa_nil)) | _ + 1, h => absurd h (by simp)))))) (fss_cons (fs_if (ft_not (ft_val (pt_val (fe_call (pe_callS (ok_is_word T base) (hr.mono (by decide)) (by rfl) T.mg_is_word T.kp_is_word T.b_is_word (fun σ => passAt tk σ) (fa_cons (fo_val (fe_var (pv 2))) (fa_nil))) rfl)))) (fss_one (fs_raise1 (c := 1) rfl tk T.oex_BadHouse T.ini_BadHouse T.tyf_BadHouse T.nof_BadHouse (ok_BadHouse___init__ T base) (hr.mono (by decide)) T.b_BadHouse___init__ (by rfl) T.mgx_BadHouse (fe_var (pv 1)))) (fss_nil)) (fss_one (fs_ret (fe_var (pv 2))))))
theorem sc__law_is_small_right : FnScope N__law_is_small_right ["hand"] (defScope s__law_is_small_right) := ⟨rfl, rfl, rfl, by decide +kernel, rfl, by decide +kernel, by decide +kernel⟩
theorem ok__law_is_small_right (T : Txt w K mg a) (base : Heap) : FnOk P w K mg base (L2.CX P w) 105 a.a__law_is_small_right a.d__law_is_small_right ["hand"] (spF (gm K a) 1 sem__law_is_small_right) := by
  refine fn_ok T.f__law_is_small_right sc__law_is_small_right body__law_is_small_right 1 rfl 6 rfl fun cdv A outer sh H E hr => ?_
  have tk : Takes (cxOf (L2.CX P w) P w K mg base N__law_is_small_right "_law_is_small_right" (defScope s__law_is_small_right) a.a__law_is_small_right cdv A outer sh H E) (fun cls d _ H => E cls d H) := takes_of rfl rfl rfl rfl
  exact fss_cons (fs_setN (ps_set (i := 1) sc__law_is_small_right.nd rfl (Or.inr rfl) (fn_lc (pe_lc (own := [("k", 5)]) rfl sc__law_is_small_right.nd (fi_range1 (pi_range1 (by rfl) T.b_range (fa_cons (fo_val (fe_c pe_int (.int 3) (fun _ => rfl))) (fa_nil)))) (blkOk_by (N := N__law_is_small_right) (sc := defScope s__law_is_small_right) (by decide +kernel)) (fun _ _ _ _ _ => fgv_name (by decide) (pg_name (i := 5) sc__law_is_small_right.nd rfl (Or.inl rfl))) (fun _ _ _ _ _ => fts_nil) (fun _ _ _ _ _ => fe_call (pe_callS (ok__law_long T base) (hr.mono (by decide)) (by rfl) T.mg__law_long T.kp__law_long T.b__law_long (fun σ => passAt takes0 σ) (fa_cons (fo_pk (pv 0)) (fa_nil))) rfl))))) (fss_cons (fs_expr (ps_expr (fe_mt mtok_append (pe_bm PySem.F.plainAttrs_list PySem.F.slot_list_append PySem.F.type_list_append mt_append (fo_pk (pv 1)) (fa_cons (fo_val (fe_sl rfl (pe_slice slr_all (fo_val (fe_op2 (op2_ix _) (pe_ix ix_seq (fo_pk (pv 1)) (fo_val (fe_c pe_int (.int 0) (fun _ => rfl))) (fun _ _ => rfl)))) (fp_some (fe_call (pe_callS (ok__law_draw T base) (hr.mono (by decide)) (by rfl) T.mg__law_draw T.kp__law_draw T.b__law_draw (fun σ => passAt tk σ) (fa_cons (fo_pk (pv 0)) (fa_cons (fo_val (fe_c pe_int (.int 3) (fun _ => rfl))) (fa_nil)))) rfl)) (fp_some (fe_op2 (op2_sub _) (pe_op op_sub (fo_val (fe_opL (opL_len _) (pe_callB callr_len (by rfl) T.b_len (by decide +kernel) (fa_cons (fo_val (fe_op2 (op2_ix _) (pe_ix ix_seq (fo_pk (pv 1)) (fo_val (fe_c pe_int (.int 0) (fun _ => rfl))) (fun _ _ => rfl)))) (fa_nil))))) (fo_val (fe_call (pe_callS (ok__law_draw T base) (hr.mono (by decide)) (by rfl) T.mg__law_draw T.kp__law_draw T.b__law_draw (fun σ => passAt tk σ) (fa_cons (fo_pk (pv 0)) (fa_cons (fo_val (fe_c pe_int (.int 2) (fun _ => rfl))) (fa_nil)))) rfl)))))))) (fa_nil)))))) (fss_cons (fs_expr (ps_expr (fe_mt mtok_append (pe_bm PySem.F.plainAttrs_list PySem.F.slot_list_append PySem.F.type_list_append mt_append (fo_pk (pv 1)) (fa_cons (fo_val (fe_op2 (op2_ix _) (pe_ix ix_seq (fo_pk (pv 1)) (fo_val (fe_c pe_int (.int 1) (fun _ => rfl))) (fun _ _ => rfl)))) (fa_nil)))))) (fss_cons (fs_set (ps_set (i := 2) sc__law_is_small_right.nd rfl (Or.inl rfl) (fe_call (pe_callS (ok__law_small T base) (hr.mono (by decide)) (by rfl) T.mg__law_small T.kp__law_small T.b__law_small (fun σ => passAt tk σ) (fa_cons (fo_pk (pv 0)) (fa_cons (fo_val (fe_var (pv 1))) (fa_nil)))) rfl))) (fss_cons (fs_set (ps_set (i := 3) sc__law_is_small_right.nd rfl (Or.inl rfl) (fe_fn (fn_make (pe_makeS T.mk_Program (ok_Program___init__ T base) (hr.mono (by decide)) (by rfl) T.mg_Program T.b_Program___init__ (fun σ => passAt tk σ) (fa_cons (fo_val (fe_var (pv 2))) (fa_nil))) rfl)))) (fss_cons (fs_set (ps_set (i := 4) sc__law_is_small_right.nd rfl (Or.inl rfl) (fe_opL (opL_tuple _) (pe_callTy call_tuple_of (by rfl) T.b_tuple (by decide +kernel) (fa_cons (fo_val (fe_fn (fn_lc (pe_lc (own := [("k", 5)]) rfl sc__law_is_small_right.nd (fi_range1 (pi_range1 (by rfl) T.b_range (fa_cons (fo_val (fe_call (pe_callS (ok__law_pick T base) (hr.mono (by decide)) (by rfl) T.mg__law_pick T.kp__law_pick T.b__law_pick (fun σ => passAt tk σ) (fa_cons (fo_pk (pv 0)) (fa_cons (fo_val (fe_fn (fn_lst (pe_lst (fa_cons (fo_val (fe_c pe_int (.int 0) (fun _ => rfl))) (fa_cons (fo_val (fe_c pe_int (.int 1) (fun _ => rfl))) (fa_cons (fo_val (fe_c pe_int (.int 2) (fun _ => rfl))) (fa_cons (fo_val (fe_c pe_int (.int 3) (fun _ => rfl))) (fa_cons (fo_val (fe_c pe_int (.int 10) (fun _ => rfl))) (fa_cons (fo_val (fe_c pe_int (.int 20) (fun _ => rfl))) (fa_cons (fo_val (fe_c pe_int (.int 21) (fun _ => rfl))) (fa_nil)))))))))))) (fa_nil)))) rfl)) (fa_nil)))) (blkOk_by (N := N__law_is_small_right) (sc := defScope s__law_is_small_right) (by decide +kernel)) (fun _ _ _ _ _ => fgv_name (by decide) (pg_name (i := 5) sc__law_is_small_right.nd rfl (Or.inl rfl))) (fun _ _ _ _ _ => fts_nil) (fun _ _ _ _ _ => fe_call (pe_callS (ok__law_pick T base) (hr.mono (by decide)) (by rfl) T.mg__law_pick T.kp__law_pick T.b__law_pick (fun σ => passAt takes0 σ) (fa_cons (fo_pk (pv 0)) (fa_cons (fo_val (fe_var (pv 1))) (fa_nil)))) rfl))))) (fa_nil)))))) (fss_one (fs_ret (fe_call (pe_callS (ok__law_is T base 50) (hr.mono (by decide)) (by rfl) T.mg__law_is T.kp__law_is T.b__law_is (fun σ => passAt tk σ) (fa_cons (fo_val (fe_meth 0 (by decide) (by rfl) (pe_some (fun c hc => match c, hc with | 0, _ => pe_methE (fo_pk (pv 3)) (T.cl 0) T.me_Program_word (ok_Program_word T base) (hr.mono (by decide)) T.b_Program_word (fun σ => passAt tk σ) (fa_cons (fo_val (fe_var (pv 4))) (fa_nil)) | _ + 1, h => absurd h (by simp))))) (fa_cons (fo_val (fe_call (pe_callS (ok__law_due T base) (hr.mono (by decide)) (by rfl) T.mg__law_due T.kp__law_due T.b__law_due (fun σ => passAt tk σ) (fa_cons (fo_val (fe_var (pv 2))) (fa_cons (fo_val (fe_var (pv 4))) (fa_nil)))) rfl)) (fa_nil)))) rfl))))))))
theorem sc_law : FnScope N_law ["script"] (defScope s_law) := ⟨rfl, rfl, rfl, by decide +kernel, rfl, by decide +kernel, by decide +kernel⟩
theorem ok_law (T : Txt w K mg a) (base : Heap) : FnOk P w K mg base (L2.CX P w) 106 a.a_law a.d_law ["script"] (spF (gm K a) 1 sem_law) := by
  refine fn_ok T.f_law sc_law body_law 1 rfl 9 rfl fun cdv A outer sh H E hr => ?_
  have tk : Takes (cxOf (L2.CX P w) P w K mg base N_law "law" (defScope s_law) a.a_law cdv A outer sh H E) (fun cls d _ H => E cls d H) := takes_of rfl rfl rfl rfl
  exact fss_cons (fs_setN (ps_set (i := 1) sc_law.nd rfl (Or.inr rfl) (fn_call (pe_callS (ok__law_hand T base) (hr.mono (by decide)) (by rfl) T.mg__law_hand T.kp__law_hand T.b__law_hand (fun σ => passAt tk σ) (fa_cons (fo_val (fe_var (pv 0))) (fa_nil))) rfl))) (fss_cons (fs_for (ps_for (passes_of rfl) rfl (fi_range1 (pi_range1 (by rfl) T.b_range (fa_cons (fo_val (fe_c pe_int (.int 12) (fun _ => rfl))) (fa_nil)))) (fg_name (pg_name (i := 2) sc_law.nd rfl (Or.inl rfl))) (fss_one (fs_if (ft_not (ft_val (pt_val (fe_call (pe_callS (ok__law_is_small_right T base) (hr.mono (by decide)) (by rfl) T.mg__law_is_small_right T.kp__law_is_small_right T.b__law_is_small_right (fun σ => passAt tk σ) (fa_cons (fo_pk (pv 1)) (fa_nil))) rfl)))) (fss_one (fs_ret (fe_c pe_bl (.bl false) (fun _ => rfl)))) (fss_nil))))) (fss_cons (fs_set (ps_set (i := 3) sc_law.nd rfl (Or.inl rfl) (fe_op2 (op2_add _) (pe_op opr_add (fo_val (fe_fn (fn_lc (pe_lc (own := [("k", 2)]) rfl sc_law.nd (fi_range1 (pi_range1 (by rfl) T.b_range (fa_cons (fo_val (fe_c pe_int (.int 4) (fun _ => rfl))) (fa_nil)))) (blkOk_by (N := N_law) (sc := defScope s_law) (by decide +kernel)) (fun _ _ _ _ _ => fgv_name (by decide) (pg_name (i := 2) sc_law.nd rfl (Or.inl rfl))) (fun _ _ _ _ _ => fts_nil) (fun _ _ _ _ _ => fe_call (pe_callS (ok__law_word T base) (hr.mono (by decide)) (by rfl) T.mg__law_word T.kp__law_word T.b__law_word (fun σ => passAt takes0 σ) (fa_cons (fo_pk (pv 1)) (fa_nil))) rfl))))) (fo_val (fe_fn (fn_lst (pe_lst (fa_cons (fo_val (fe_c pe_str (.str "a") (fun _ => rfl))) (fa_cons (fo_val (fe_c pe_str (.str "0") (fun _ => rfl))) (fa_cons (fo_val (fe_c pe_str (.str "3") (fun _ => rfl))) (fa_nil)))))))))))) (fss_cons (fs_set (ps_set (i := 4) sc_law.nd rfl (Or.inl rfl) (fe_call (pe_callS (ok__law_draw T base) (hr.mono (by decide)) (by rfl) T.mg__law_draw T.kp__law_draw T.b__law_draw (fun σ => passAt tk σ) (fa_cons (fo_pk (pv 1)) (fa_cons (fo_val (fe_c pe_int (.int 3) (fun _ => rfl))) (fa_nil)))) rfl))) (fss_cons (fs_set (ps_set (i := 5) sc_law.nd rfl (Or.inl rfl) (fe_call (pe_callS (ok__law_program T base) (hr.mono (by decide)) (by rfl) T.mg__law_program T.kp__law_program T.b__law_program (fun σ => passAt tk σ) (fa_cons (fo_pk (pv 1)) (fa_cons (fo_val (fe_var (pv 3))) (fa_cons (fo_val (fe_op2 (op2_add _) (pe_op opr_add (fo_val (fe_c pe_int (.int 10) (fun _ => rfl))) (fo_val (fe_call (pe_callS (ok__law_draw T base) (hr.mono (by decide)) (by rfl) T.mg__law_draw T.kp__law_draw T.b__law_draw (fun σ => passAt tk σ) (fa_cons (fo_pk (pv 1)) (fa_cons (fo_val (fe_c pe_int (.int 51) (fun _ => rfl))) (fa_nil)))) rfl))))) (fa_cons (fo_val (fe_var (pv 4))) (fa_nil)))))) rfl))) (fss_cons (fs_set (ps_set (i := 6) sc_law.nd rfl (Or.inl rfl) (fe_fn (fn_make (pe_makeS T.mk_Program (ok_Program___init__ T base) (hr.mono (by decide)) (by rfl) T.mg_Program T.b_Program___init__ (fun σ => passAt tk σ) (fa_cons (fo_val (fe_var (pv 5))) (fa_nil))) rfl)))) (fss_cons (fs_if (ft_not (ft_val (pt_val (fe_call (pe_callS (ok__law_is T base 50) (hr.mono (by decide)) (by rfl) T.mg__law_is T.kp__law_is T.b__law_is (fun σ => passAt tk σ) (fa_cons (fo_val (fe_fld rfl T.cl (T.na_statements) (pe_fld (fo_pk (pv 6)) rfl))) (fa_cons (fo_val (fe_var (pv 5))) (fa_nil)))) rfl)))) (fss_one (fs_ret (fe_c pe_bl (.bl false) (fun _ => rfl)))) (fss_nil)) (fss_cons (fs_for (ps_for (passes_of rfl) rfl (fi_range1 (pi_range1 (by rfl) T.b_range (fa_cons (fo_val (fe_c pe_int (.int 4) (fun _ => rfl))) (fa_nil)))) (fg_name (pg_name (i := 2) sc_law.nd rfl (Or.inl rfl))) (fss_cons (fs_set (ps_set (i := 7) sc_law.nd rfl (Or.inl rfl) (fe_call (pe_callS (ok__law_row T base) (hr.mono (by decide)) (by rfl) T.mg__law_row T.kp__law_row T.b__law_row (fun σ => passAt tk σ) (fa_cons (fo_pk (pv 1)) (fa_cons (fo_val (fe_var (pv 3))) (fa_cons (fo_val (fe_var (pv 4))) (fa_nil))))) rfl))) (fss_cons (fs_set (ps_set (i := 8) sc_law.nd rfl (Or.inl rfl) (fe_call (pe_callS (ok__law_due T base) (hr.mono (by decide)) (by rfl) T.mg__law_due T.kp__law_due T.b__law_due (fun σ => passAt tk σ) (fa_cons (fo_val (fe_var (pv 5))) (fa_cons (fo_val (fe_var (pv 7))) (fa_nil)))) rfl))) (fss_one (fs_if (ft_not (ft_val (pt_val (fe_call (pe_callS (ok__law_is T base 50) (hr.mono (by decide)) (by rfl) T.mg__law_is T.kp__law_is T.b__law_is (fun σ => passAt tk σ) (fa_cons (fo_val (fe_tup (pe_tup (fa_cons (fo_val (fe_meth 0 (by decide) (by rfl) (pe_some (fun c hc => match c, hc with | 0, _ => pe_methE (fo_pk (pv 6)) (T.cl 0) T.me_Program_word (ok_Program_word T base) (hr.mono (by decide)) T.b_Program_word (fun σ => passAt tk σ) (fa_cons (fo_val (fe_var (pv 7))) (fa_nil)) | _ + 1, h => absurd h (by simp))))) (fa_cons (fo_val (fe_call (pe_callS (ok_asked T base) (hr.mono (by decide)) (by rfl) T.mg_asked T.kp_asked T.b_asked (fun σ => passAt tk σ) (fa_cons (fo_val (fe_var (pv 6))) (fa_cons (fo_val (fe_var (pv 7))) (fa_nil)))) rfl)) (fa_nil)))))) (fa_cons (fo_val (fe_tup (pe_tup (fa_cons (fo_val (fe_var (pv 8))) (fa_cons (fo_val (fe_var (pv 8))) (fa_nil)))))) (fa_nil)))) rfl)))) (fss_one (fs_ret (fe_c pe_bl (.bl false) (fun _ => rfl)))) (fss_nil))))))) (fss_one (fs_ret (fe_c pe_bl (.bl true) (fun _ => rfl)))))))))))
end
end Law

namespace Law
open PySem PySem.Spec PyProof.Rows L2 FL
open Lean in
local macro_rules | `(tactic| walk_at $s:str) => do
  let ws := s.getString.splitOn " "
  match ws with
  | "run" :: r =>
    let xs : Array (TSyntax `Lean.Parser.Tactic.simpLemma) ← (r.filter (· != "")).toArray.mapM fun n => do
      let i : TSyntax `term := mkIdent n.toName
      `(Lean.Parser.Tactic.simpLemma| $i:term)
    `(tactic| simp only [x_val, x_bad, x_exc, x_Rsome, x_Rnone, x_ite, x_fPk, x_fVar, pkV_fz, pkV_own, pkV_bor, vrV_fz, vrV_own, get_v, get_pk, slC_fz, slC_own, slC_bor, x_fC, x_fV, x_fOp2, r2_ss, x_fAs0, x_fAs1, x_arGets0, x_arGets1, cons2_s, x_valsOf0, x_valsOf1, rL_s, x_fOpL, x_fOpV, x_fAnd, x_fOr, andK_t, andK_f, orK_t, orK_f, x_tAnd, x_tOr, x_tNot, x_tYes, tandK_t, tandK_f, torK_t, torK_f, x_fIf, ifK_t, ifK_f, x_fTest, asB_bl, x_fNot, x_fChain, chK_t, chK_f, x_fNx, x_fBrk, x_fCnt, x_fBad, x_seq, seqK_nx, seqK_rt, seqK_rn, seqK_bk, seqK_ct, loopK_nx, loopK_ct, loopK_bk, loopK_rt, loopK_rn, nxK_nx, lpK_nx, lpK_ct, lpK_bk, lpK_rt, lpK_rn, tsK_t, tsK_f, endK_nx, endK_rt, endM_rn, bakK_s, bk_nil', bk_fz', bk_bor', bCons_s, x_fDrop, x_fRet, x_fRetN, x_fRet0, x_fSet, x_fSetN, x_fPar, x_fParNE, x_fParEN, x_fAsg, x_asgK, someK_s, x_bName, x_bTup, x_bAll0, x_bAll1, x_obind, x_fFor, x_fLc, x_fCall, x_fCallN, calK_s, calM_s, retK_s, x_backK, runC_val, runN_new, lend0, lend_v1, lend_pk1, sCons2_s, lendS1_fz, lendS1_own, lendS1_bor, unl_pk, unl_pkno, unl_v, unl_nil, putO_fz, putO_own, putO_bor, x_fFld, rFld_s, x_fSl, rSl_s, x_pNone, x_pSome, asI_int, x_iAny, x_iRng, x_iZip, x_iEnum, x_fSetIx, rIx_own, rIx_bor, x_fMt, mtK_s, rMt_own, rMt_bor, x_fIsiT, x_fSetFld', rSF_bor, rSF_own, x_fMake, mkK_s, mkK2_s, x_fEqI, eqK_ins, eqR, eqK_tup, eqK_lst, eqK_non, eqK_int, eqK_str, eqK_bl, List.take_succ_cons, List.take_zero, cut_nat, cut_hi, cut_lo, cut_lohi, Int.zero_add, Int.cast_ofNat_Int, Int.natCast_zero, Int.natCast_one,
      List.length_cons, List.length_nil, List.cons_append, List.nil_append, List.replicate_succ, List.replicate_zero, List.getElem?_cons_zero, List.getElem?_cons_succ, List.set_cons_zero, List.set_cons_succ, Nat.reduceAdd, Nat.reduceSub, Nat.reduceMul, Nat.zero_add, Int.reduceAdd, Int.reduceSub, Int.reduceMul, Int.reduceNeg, Int.reducePow, Int.reduceLT, Int.reduceLE, Int.reduceEq, Int.reduceToNat, Nat.reducePow, Nat.reduceLT, Nat.reduceLeDiff,
      once_0, once_v, once_pk, pkIs_v, pkIs_pk, Nat.reduceBEq, sh_0, sh_fz', sh_bor', List.any_nil, List.any_cons, Bool.not_false, Bool.not_true, Bool.and_self, Bool.or_false, Bool.false_or, Bool.true_and, Bool.and_true, Bool.true_or, Bool.or_true, true_and, and_true, Bool.or_self, Bool.false_and, Bool.and_false, Bool.not_not,
      oAdd, oSub, oMul, oDiv, oMod, oLt, oLe, oGt, oGe, B64_def, x_ixL, x_ixT, x_slT, x_slL, x_slS, x_itT, x_itL, x_itS, x_itZT, x_itZL, x_itET, x_itEL, x_app, lD0, lD1, lD2, oD_n, oD_s, x_bTup3,  oLen, oInt, oEq_int, oNe_int, oEq_bl, oNe_bl, oIsN, oNotN, FL.isNon, Option.map_some, Option.map_none, atI_0, atI_1, atI_2, atI_3, atI_4, ixN_0, ixN_1, ixN_2, ixN_3, ixN_4, oTupD, oLstD, oTuple, oMin2, oMax2, oAbs, wipeE, restoreE, keepF, decide_true, decide_false, tIsi, tyName, tgs_int, tgs_bool, tgs_tuple, tgs_list, tgs_str, tgs_dict, st_own_bool, st_own_int, st_own_str, st_own_tuple, st_own_list, st_own_dict, st_NoneType_bool, st_NoneType_int, st_NoneType_str, st_NoneType_tuple, st_NoneType_list, st_NoneType_dict, st_bool_bool, st_bool_int, st_bool_str, st_bool_tuple, st_bool_list, st_bool_dict, st_int_bool, st_int_int, st_int_str, st_int_tuple, st_int_list, st_int_dict, st_str_bool, st_str_int, st_str_str, st_str_tuple, st_str_list, st_str_dict, st_tuple_bool, st_tuple_int, st_tuple_str, st_tuple_tuple, st_tuple_list, st_tuple_dict, st_list_bool, st_list_int, st_list_str, st_list_tuple, st_list_list, st_list_dict, st_dict_bool, st_dict_int, st_dict_str, st_dict_tuple, st_dict_list, st_dict_dict, rTL, tIsc, isc_ins, isc_non, isc_bl, isc_int, isc_str, isc_tup, isc_lst, isc_emp, ek_ins, ek_non, ek_bl, ek_int, ek_str, ek_tup, ek_lst, s_seq, seqS_nx, seqS_rt, seqS_rn, seqS_bk, seqS_ct, s_val, s_nx, ifS_t, ifS_f, xx_set, xx_setN, xx_ret, xx_drop, calX_s, exK_exc, s_try, x_try, excK_t, s_hRet, s_hSet, optK_s, bakX_s, xC, xFld, xIs, xAnd, xB, xAndB, xIf, x_fEmp, x_fPar3, x_fPar3N, x_fTupR, rTupR_s, x_fNeg, rNeg_s, x_ins, x_ext, x_fLc2, yesK_t, eq_self, wlK_nx, wlK_ct, wlK_bk, wlK_rt, wlK_rn, whK_t, whK_f, x_fJoin, strK_s, x_extT, rT3, rT2, oIsB, isBlD, x_fMeth, mthK_s, x_fFldC, fldK_s, List.contains_cons, List.contains_nil, Option.isNone_none, Option.isNone_some, x_fLZip, lzip_s, dicK_dk, getO_dk, x_fGet2, x_fKGet, kgK_s, x_fSetK, rK_own, rK_bor, x_fCallD, x_fCallM, calMM_s, retM_s, x_backM, runM_val, runM_new, x_fMv, mvK_fz, mvK_own, x_fSetM, smK_fz, smK_own, auK_s, x_fAugI, aI_s, mulA_ii, x_fRevS, rvK_s, oStr_s, x_fTru, asT_non, asT_lst, asT_tup, asT_bl, reduceIte, reduceCtorEq, and_self, or_true, true_or, $xs,*])
  | "tgt" :: _ => `(tactic| simp only [x_bName, x_bTup, x_bTup3, x_bAll0, x_bAll1, x_obind, someK_s, Int.zero_add, List.set_cons_succ, List.set_cons_zero])
  | "spl" :: _ => `(tactic| ((with_reducible (first | refine tandK_if ?_ ?_ | refine torK_if ?_ ?_ | refine ifK_if ?_ ?_ | refine andK_if ?_ ?_ | refine orK_if ?_ ?_ | refine chK_if ?_ ?_ | refine tsK_if ?_ ?_ | refine ifS_if ?_ ?_ | refine whK_if ?_ ?_)) <;> (intro hyp; (try simp only [Bool.and_eq_true, Bool.or_eq_true, Bool.and_eq_false_iff, Bool.or_eq_false_iff, beq_iff_eq, decide_eq_true_eq, decide_eq_false_iff_not, beq_eq_false_iff_ne, Bool.not_eq_true', Bool.not_eq_false', Bool.not_eq_true, Bool.not_eq_false, ne_eq, not_true_eq_false, not_false_eq_true, Bool.true_eq_false, Bool.false_eq_true] at hyp); try (exfalso; omega))))
  | "side" :: _ => `(tactic| (with_reducible refine And.intro (by first | omega | assumption | exact sl16 (by omega) | (refine And.intro ?_ ?_ <;> omega)) ?_))
  | "gos" :: _ => do
    let q := Syntax.mkStrLit ("run" ++ (s.getString.drop 3).toString)
    `(tactic| repeat' (first | walk_at $q:str | walk_at "spl" | walk_at "side" | walk_at "sx" | (with_reducible refine s_run ?_)))
  | "gox" :: _ => do
    let q := Syntax.mkStrLit ("run" ++ (s.getString.drop 3).toString)
    `(tactic| repeat' (first | walk_at $q:str | walk_at "spl" | walk_at "side" | walk_at "sx" | (with_reducible refine s_exc ?_)))
  | "sx" :: _ => `(tactic| (with_reducible first | refine s_if ?_ | refine s_raise ?_ | refine xx_call ?_ | refine xx_callN ?_ | refine xx_make ?_))
  | "go" :: _ => do
    let q := Syntax.mkStrLit ("run" ++ (s.getString.drop 2).toString)
    `(tactic| repeat' (first | walk_at $q:str | walk_at "spl" | walk_at "side"))
  | _ => Lean.Macro.throwUnsupported
theorem p18 : oPow (.int 10) (.int 18) = some (.int 1000000000000000000) := by rfl
/-! ## draws -/
def HandD (d : D) : Prop := ∃ (cells : List Int) (i : Nat) (b s c : Int), cells.length ≤ 63 ∧ d = .lst [.lst (cells.map .int), .int i, .int b, .int s, .int c]
theorem draw_ok {h : D} {k : Nat} {m : Int} (hh : HandD h) (h0 : 0 < m) (h1 : m < 1073741824) : wpF (sem__law_draw [.bor k h, .fz (.int m)]) (fun d bs => ∃ r h', d = .int r ∧ bs = [.bor k h', .no] ∧ HandD h' ∧ 0 ≤ r ∧ r < m) := by
  obtain ⟨cells, i, b, s, c, hc, rfl⟩ := hh
  have hs : cells.length ≤ sizeLine := sl16 (by omega)
  have m0 : ∀ x : Int, 0 ≤ x % m := fun x => Int.emod_nonneg x (by omega)
  have m1 : ∀ x : Int, x % m < m := fun x => Int.emod_lt_of_pos x h0
  have fin : ∀ (x : Int) (j : Nat) (b s c : Int), ∃ r h', D.int (x % m) = .int r ∧ [Sl.bor k (D.lst [D.lst (List.map D.int cells), D.int j, D.int b, D.int s, D.int c]), Sl.no] = [.bor k h', .no] ∧ HandD h' ∧ 0 ≤ r ∧ r < m :=
    fun x j b s c => ⟨_, _, rfl, rfl, ⟨cells, j, b, s, c, hc, rfl⟩, m0 x, m1 x⟩
  refine fn_run ?_
  walk_at "go body__law_draw p18 List.length_map hs"
  all_goals first | exact fin _ _ _ _ _ | skip
  rename_i hb hi
  obtain ⟨x, hx⟩ : ∃ x, cells[i]? = some x := ⟨_, List.getElem?_eq_getElem (by omega)⟩
  have gx : atI (cells.map D.int) (i : Int) = some (.int x) := by rw [atI_nat', List.getElem?_map, hx]; rfl
  walk_at "go gx p18 List.length_map hs"
  all_goals first | exact fin _ (i + 1) _ _ _ | skip
theorem pick_ok {h : D} {k : Nat} {xs : List D} (hh : HandD h) (h0 : 0 < xs.length) (h1 : xs.length ≤ 1000000) : wpF (sem__law_pick [.bor k h, .fz (.lst xs)]) (fun d bs => ∃ h', d ∈ xs ∧ bs = [.bor k h', .no] ∧ HandD h') := by
  have hs : xs.length ≤ sizeLine := sl16 h1
  refine fn_run ?_
  walk_at "go body__law_pick hs"
  refine call_by (draw_ok hh (by omega) (by omega)) ?_
  rintro d bs ⟨r, h', rfl, rfl, hh', r0, r1⟩
  obtain ⟨x, hx⟩ : ∃ x, xs[r.toNat]? = some x := ⟨_, List.getElem?_eq_getElem (by omega)⟩
  have gx : atI xs r = some x := atI_get r0 hx
  walk_at "go gx"
  exact ⟨h', List.mem_of_getElem? hx, rfl, hh'⟩
theorem hand_ok {ns : List Int} (h : ns.length ≤ 63) : wpN (sem__law_hand [.fz (.scr ns)]) (fun d bs => HandD d ∧ bs = [.no]) := by
  have hs : ns.length ≤ sizeLine := sl16 (by omega)
  have ht : List.take 63 ns = ns := List.take_of_length_le h
  have l5 : (5 : Nat) ≤ sizeLine := sl16 (by omega)
  refine fn_runN ?_
  walk_at "go body__law_hand take_map' ht"
  refine lc_fun (k := D.int) hs (fun i => .int i) (fun x _ => ?_) ?_
  · walk_at "go"
  · walk_at "go take_map' ht hs l5 List.length_map"
    exact ⟨ns, 0, 0, _, 0, h, rfl⟩
theorem strOk_app {a b : Str} (h : PyData.strOk a = true) (h2 : PyData.strOk b = true) : PyData.strOk (a ++ b) = true := by
  have e : (a ++ b).cps = a.cps ++ b.cps := rfl
  unfold PyData.strOk at *
  rw [e, Array.all_append, h, h2]; rfl
theorem strOk_emp : PyData.strOk (Str.ofString "") = true := by decide +kernel
theorem strOk_join {y : Str} (hy : PyData.strOk y = true) : ∀ ss : List Str, (∀ s, s ∈ ss → PyData.strOk s = true) → PyData.strOk (Str.join y ss) = true
  | [], _ => by show PyData.strOk Str.empty = true; decide +kernel
  | [x], h => h x (by simp)
  | x :: z :: r, h => by
    show PyData.strOk (x ++ y ++ Str.join y (z :: r)) = true
    exact strOk_app (strOk_app (h x (by simp)) hy) (strOk_join hy (z :: r) fun s hs => h s (by simp [hs]))
theorem strOk_txt {y : Str} (hy : PyData.strOk y = true) {ss : List Str} (h : ∀ s, s ∈ ss → PyData.strOk s = true) : PyData.strOk (Txt.join y ss) = true := by
  have e : Txt.join y ss = Str.join y ss := StrLaws.glued_eq_join y ss
  rw [e]; exact strOk_join hy ss h
theorem strsD_map : ∀ ss : List Str, strsD (ss.map .str) = some ss
  | [] => rfl
  | s :: ss => by rw [List.map_cons, strsD, strsD_map ss]
theorem sum_len {n : Nat} : ∀ {ss : List Str}, (∀ s, s ∈ ss → s.length ≤ n) → (ss.map (·.length)).sum ≤ ss.length * n
  | [], _ => by simp
  | s :: ss, h => by
    rw [List.map_cons, List.sum_cons, List.length_cons, Nat.succ_mul]
    have := h s (by simp)
    have := sum_len (n := n) (ss := ss) fun t ht => h t (by simp [ht])
    omega
theorem x_join {y : Str} {ss : List Str} {n : Nat} (h : ∀ s, s ∈ ss → s.length ≤ n) (hl : ss.length * n + ss.length * y.length ≤ 16777216) : oJoin (.str y) (.lst (ss.map .str)) = some (.str (Txt.join y ss)) := by
  show joinS y (ss.map .str) = _
  unfold joinS
  rw [strsD_map]
  simp only
  rw [if_pos (by have := sum_len h; omega)]
theorem pickS_ok {h : D} {k : Nat} {s : Str} (hh : HandD h) (h0 : 0 < s.length) (h1 : s.length ≤ 100000) : wpF (sem__law_pick [.bor k h, .fz (.str s)]) (fun d bs => ∃ h' c, d = .str ⟨#[c]⟩ ∧ c ∈ s.cps.toList ∧ bs = [.bor k h', .no] ∧ HandD h') := by
  have hs : s.length ≤ sizeLine := sl16 (by omega)
  refine fn_run ?_
  walk_at "go body__law_pick hs"
  refine call_by (draw_ok hh (by omega) (by omega)) ?_
  rintro d bs ⟨r, h', rfl, rfl, hh', r0, r1⟩
  have hl : s.cps.toList.length = s.length := rfl
  obtain ⟨c, hc⟩ : ∃ c, s.cps.toList[r.toNat]? = some c := ⟨_, List.getElem?_eq_getElem (by omega)⟩
  have gx : oIx (.str s) (.int r) = some (.str ⟨#[c]⟩) := by
    unfold oIx
    simp only [if_pos hs]
    rw [atI_get r0 hc]; rfl
  walk_at "go gx"
  exact ⟨h', c, rfl, List.mem_of_getElem? hc, rfl, hh'⟩
theorem pick_of {h : D} {k : Nat} {xs : List D} {P : D → Prop} (hh : HandD h) (h0 : 0 < xs.length) (h1 : xs.length ≤ 1000000) (hP : ∀ d, d ∈ xs → P d) : wpF (sem__law_pick [.bor k h, .fz (.lst xs)]) (fun d bs => ∃ h', P d ∧ bs = [.bor k h', .no] ∧ HandD h') :=
  wpF_imp (pick_ok hh h0 h1) fun d bs ⟨h', hd, hb, hh'⟩ => ⟨h', hP d hd, hb, hh'⟩
theorem dEq_str {s t : Str} (h : PyData.strOk s = true) (h2 : PyData.strOk t = true) : dEq (.str s) (.str t) = some (s == t) := by
  have a : SeqAt.shaped (PyData.str s) = true := by unfold SeqAt.shaped PyData.canLay0; rw [h]; rfl
  have b : SeqAt.shaped (PyData.str t) = true := by unfold SeqAt.shaped PyData.canLay0; rw [h2]; rfl
  show (if SeqAt.shaped (PyData.str s) = true ∧ SeqAt.shaped (PyData.str t) = true then some (PyData.eqv (PyData.str s) (PyData.str t)) else none) = _
  rw [if_pos ⟨a, b⟩]; unfold PyData.eqv; rfl
theorem oEq_self {s : Str} (h : PyData.strOk s = true) : oEq (.str s) (.str s) = some (.bl true) := by unfold oEq; rw [dEq_str h h]; simp
theorem oNe_self {s : Str} (h : PyData.strOk s = true) : oNe (.str s) (.str s) = some (.bl false) := by unfold oNe; rw [dEq_str h h]; simp
abbrev IsT (n : Nat) (d : D) : Prop := sem__law_is n [.fz d, .fz d] = .val (.bl true) [.no, .no]
theorem is_str {n : Nat} {s : Str} (h : PyData.strOk s = true) : IsT (n + 1) (.str s) := by
  have h := oEq_self h
  refine fn_eq ?_
  walk_at "go body__law_is rTL h"
theorem is_tup {n : Nat} {xs : List D} (hl : xs.length ≤ 100000) (h : ∀ x, x ∈ xs → IsT (n + 1) x) : IsT (n + 2) (.tup xs) := by
  have hx : xs.length ≤ sizeLine := sl16 (by omega)
  have hz : zipD xs xs = xs.map fun x => .tup [x, x] := by
    unfold zipD
    have : xs.zip xs = xs.map fun x => (x, x) := by
      clear hl h hx
      induction xs with
      | nil => rfl
      | cons x xs ih => rw [List.zip_cons_cons, ih]; rfl
    rw [this, List.map_map]; rfl
  refine fn_eq ?_
  walk_at "go body__law_is rTL hx hz"
  refine lc_fun hx (fun _ => .bl true) (fun x hm => ?_) ?_
  · have hh : sem__law_is (n + 1) [.fz x, .fz x] = .val (.bl true) [.no, .no] := h x hm
    walk_at "go hh"
  · have ha := oAll_map (f := fun _ : D => true) (xs := xs)
    walk_at "go ha"
    simp

/-! ## words -/
def wdB (s : Str) : Bool := decide (s.length ≤ 40) && s.cps.toList.all fun c => decide (32 ≤ c) && decide (c ≤ 126)
abbrev Wd (s : Str) : Prop := wdB s = true
theorem wd_iff {s : Str} : Wd s ↔ s.length ≤ 40 ∧ ∀ c, c ∈ s.cps.toList → 32 ≤ c ∧ c ≤ 126 := by
  unfold Wd wdB; simp only [Bool.and_eq_true, decide_eq_true_eq, List.all_eq_true]
theorem Wd.len {s : Str} (h : Wd s) : s.length ≤ 40 := (wd_iff.mp h).1
theorem Wd.ok {s : Str} (h : Wd s) : PyData.strOk s = true := by
  unfold PyData.strOk
  rw [Array.all_eq_true']
  intro c hc
  have := (wd_iff.mp h).2 c (Array.mem_toList_iff.mpr hc)
  exact decide_eq_true (by omega)
theorem Wd.line {s : Str} (h : Wd s) : s.length ≤ sizeLine := sl16 (by have := h.len; omega)
theorem Wd.cut {s : Str} (h : Wd s) (lo hi : Option Int) : Wd (cutS s lo hi) := by
  obtain ⟨h1, h2⟩ := wd_iff.mp h
  refine wd_iff.mpr ⟨Nat.le_trans (cutS_length s lo hi) h1, fun c hc => h2 c ?_⟩
  unfold cutS at hc
  rw [List.toList_toArray] at hc
  exact List.mem_of_mem_drop (List.mem_of_mem_take hc)
theorem Wd.rev {s : Str} (h : Wd s) : Wd (revS s) := by
  obtain ⟨h1, h2⟩ := wd_iff.mp h
  refine wd_iff.mpr ⟨?_, fun c hc => h2 c ?_⟩
  · show (revS s).cps.size ≤ 40
    unfold revS
    rw [List.size_toArray, List.length_reverse, Array.length_toList]
    exact h1
  · unfold revS at hc
    rw [List.toList_toArray] at hc
    exact List.mem_reverse.mp hc
theorem app_list (a b : Str) : (a ++ b).cps.toList = a.cps.toList ++ b.cps.toList := by
  have e : (a ++ b).cps = a.cps ++ b.cps := rfl
  rw [e, Array.toList_append]
theorem app_len (a b : Str) : (a ++ b).length = a.length + b.length := by
  have e : (a ++ b).cps = a.cps ++ b.cps := rfl
  show (a ++ b).cps.size = a.cps.size + b.cps.size
  rw [e, Array.size_append]
theorem cut_take {s : Str} {n : Nat} : cutS s none (some (n : Int)) = ⟨(s.cps.toList.take n).toArray⟩ := by
  unfold cutS
  have h1 : HT.sIx s.length 0 none = 0 := rfl
  have h2 : HT.sIx s.length s.length (some (n : Int)) = min n s.length := by
    unfold HT.sIx; simp; omega
  rw [h1, h2]
  congr 2
  rw [List.drop_zero, Nat.sub_zero]
  have hl : s.cps.toList.length = s.length := rfl
  by_cases h : n ≤ s.length
  · rw [Nat.min_eq_left h]
  · rw [Nat.min_eq_right (by omega), List.take_of_length_le (by omega), List.take_of_length_le (by omega)]
theorem Wd.join {a b : Str} (h : Wd a) (h2 : Wd b) : Wd (cutS (a ++ b) none (some 40)) := by
  have e : cutS (a ++ b) none (some 40) = ⟨((a ++ b).cps.toList.take 40).toArray⟩ := cut_take (n := 40)
  rw [e]
  refine wd_iff.mpr ⟨?_, fun c hc => ?_⟩
  · show (((a ++ b).cps.toList.take 40).toArray).size ≤ 40
    rw [List.size_toArray, List.length_take]; omega
  · rw [List.toList_toArray] at hc
    have := List.mem_of_mem_take hc
    rw [app_list] at this
    rcases List.mem_append.mp this with h3 | h3
    · exact (wd_iff.mp h).2 c h3
    · exact (wd_iff.mp h2).2 c h3
theorem wd_nil : Wd "" := by decide +kernel
theorem wd_num : ∀ n : Nat, n < 401 → Wd (toString ((n : Nat) : Int) : String) := by decide +kernel
theorem oEq_ss {s t : Str} (h : PyData.strOk s = true) (h2 : PyData.strOk t = true) {b : Bool} (h3 : (s == t) = b) : oEq (.str s) (.str t) = some (.bl b) := by unfold oEq; rw [dEq_str h h2, h3]; rfl
theorem q_text_text : oEq (.str "text") (.str "text") = some (.bl true) := oEq_ss (by decide +kernel) (by decide +kernel) (by decide +kernel)
theorem q_text_name : oEq (.str "text") (.str "name") = some (.bl false) := oEq_ss (by decide +kernel) (by decide +kernel) (by decide +kernel)
theorem q_text_many : oEq (.str "text") (.str "many") = some (.bl false) := oEq_ss (by decide +kernel) (by decide +kernel) (by decide +kernel)
theorem q_text_last : oEq (.str "text") (.str "last") = some (.bl false) := oEq_ss (by decide +kernel) (by decide +kernel) (by decide +kernel)
theorem q_text_join : oEq (.str "text") (.str "join") = some (.bl false) := oEq_ss (by decide +kernel) (by decide +kernel) (by decide +kernel)
theorem q_text_turn : oEq (.str "text") (.str "turn") = some (.bl false) := oEq_ss (by decide +kernel) (by decide +kernel) (by decide +kernel)
theorem q_text_rest : oEq (.str "text") (.str "rest") = some (.bl false) := oEq_ss (by decide +kernel) (by decide +kernel) (by decide +kernel)
theorem q_text_first : oEq (.str "text") (.str "first") = some (.bl false) := oEq_ss (by decide +kernel) (by decide +kernel) (by decide +kernel)
theorem q_name_text : oEq (.str "name") (.str "text") = some (.bl false) := oEq_ss (by decide +kernel) (by decide +kernel) (by decide +kernel)
theorem q_name_name : oEq (.str "name") (.str "name") = some (.bl true) := oEq_ss (by decide +kernel) (by decide +kernel) (by decide +kernel)
theorem q_name_many : oEq (.str "name") (.str "many") = some (.bl false) := oEq_ss (by decide +kernel) (by decide +kernel) (by decide +kernel)
theorem q_name_last : oEq (.str "name") (.str "last") = some (.bl false) := oEq_ss (by decide +kernel) (by decide +kernel) (by decide +kernel)
theorem q_name_join : oEq (.str "name") (.str "join") = some (.bl false) := oEq_ss (by decide +kernel) (by decide +kernel) (by decide +kernel)
theorem q_name_turn : oEq (.str "name") (.str "turn") = some (.bl false) := oEq_ss (by decide +kernel) (by decide +kernel) (by decide +kernel)
theorem q_name_rest : oEq (.str "name") (.str "rest") = some (.bl false) := oEq_ss (by decide +kernel) (by decide +kernel) (by decide +kernel)
theorem q_name_first : oEq (.str "name") (.str "first") = some (.bl false) := oEq_ss (by decide +kernel) (by decide +kernel) (by decide +kernel)
theorem q_many_text : oEq (.str "many") (.str "text") = some (.bl false) := oEq_ss (by decide +kernel) (by decide +kernel) (by decide +kernel)
theorem q_many_name : oEq (.str "many") (.str "name") = some (.bl false) := oEq_ss (by decide +kernel) (by decide +kernel) (by decide +kernel)
theorem q_many_many : oEq (.str "many") (.str "many") = some (.bl true) := oEq_ss (by decide +kernel) (by decide +kernel) (by decide +kernel)
theorem q_many_last : oEq (.str "many") (.str "last") = some (.bl false) := oEq_ss (by decide +kernel) (by decide +kernel) (by decide +kernel)
theorem q_many_join : oEq (.str "many") (.str "join") = some (.bl false) := oEq_ss (by decide +kernel) (by decide +kernel) (by decide +kernel)
theorem q_many_turn : oEq (.str "many") (.str "turn") = some (.bl false) := oEq_ss (by decide +kernel) (by decide +kernel) (by decide +kernel)
theorem q_many_rest : oEq (.str "many") (.str "rest") = some (.bl false) := oEq_ss (by decide +kernel) (by decide +kernel) (by decide +kernel)
theorem q_many_first : oEq (.str "many") (.str "first") = some (.bl false) := oEq_ss (by decide +kernel) (by decide +kernel) (by decide +kernel)
theorem q_last_text : oEq (.str "last") (.str "text") = some (.bl false) := oEq_ss (by decide +kernel) (by decide +kernel) (by decide +kernel)
theorem q_last_name : oEq (.str "last") (.str "name") = some (.bl false) := oEq_ss (by decide +kernel) (by decide +kernel) (by decide +kernel)
theorem q_last_many : oEq (.str "last") (.str "many") = some (.bl false) := oEq_ss (by decide +kernel) (by decide +kernel) (by decide +kernel)
theorem q_last_last : oEq (.str "last") (.str "last") = some (.bl true) := oEq_ss (by decide +kernel) (by decide +kernel) (by decide +kernel)
theorem q_last_join : oEq (.str "last") (.str "join") = some (.bl false) := oEq_ss (by decide +kernel) (by decide +kernel) (by decide +kernel)
theorem q_last_turn : oEq (.str "last") (.str "turn") = some (.bl false) := oEq_ss (by decide +kernel) (by decide +kernel) (by decide +kernel)
theorem q_last_rest : oEq (.str "last") (.str "rest") = some (.bl false) := oEq_ss (by decide +kernel) (by decide +kernel) (by decide +kernel)
theorem q_last_first : oEq (.str "last") (.str "first") = some (.bl false) := oEq_ss (by decide +kernel) (by decide +kernel) (by decide +kernel)
theorem q_join_text : oEq (.str "join") (.str "text") = some (.bl false) := oEq_ss (by decide +kernel) (by decide +kernel) (by decide +kernel)
theorem q_join_name : oEq (.str "join") (.str "name") = some (.bl false) := oEq_ss (by decide +kernel) (by decide +kernel) (by decide +kernel)
theorem q_join_many : oEq (.str "join") (.str "many") = some (.bl false) := oEq_ss (by decide +kernel) (by decide +kernel) (by decide +kernel)
theorem q_join_last : oEq (.str "join") (.str "last") = some (.bl false) := oEq_ss (by decide +kernel) (by decide +kernel) (by decide +kernel)
theorem q_join_join : oEq (.str "join") (.str "join") = some (.bl true) := oEq_ss (by decide +kernel) (by decide +kernel) (by decide +kernel)
theorem q_join_turn : oEq (.str "join") (.str "turn") = some (.bl false) := oEq_ss (by decide +kernel) (by decide +kernel) (by decide +kernel)
theorem q_join_rest : oEq (.str "join") (.str "rest") = some (.bl false) := oEq_ss (by decide +kernel) (by decide +kernel) (by decide +kernel)
theorem q_join_first : oEq (.str "join") (.str "first") = some (.bl false) := oEq_ss (by decide +kernel) (by decide +kernel) (by decide +kernel)
theorem q_turn_text : oEq (.str "turn") (.str "text") = some (.bl false) := oEq_ss (by decide +kernel) (by decide +kernel) (by decide +kernel)
theorem q_turn_name : oEq (.str "turn") (.str "name") = some (.bl false) := oEq_ss (by decide +kernel) (by decide +kernel) (by decide +kernel)
theorem q_turn_many : oEq (.str "turn") (.str "many") = some (.bl false) := oEq_ss (by decide +kernel) (by decide +kernel) (by decide +kernel)
theorem q_turn_last : oEq (.str "turn") (.str "last") = some (.bl false) := oEq_ss (by decide +kernel) (by decide +kernel) (by decide +kernel)
theorem q_turn_join : oEq (.str "turn") (.str "join") = some (.bl false) := oEq_ss (by decide +kernel) (by decide +kernel) (by decide +kernel)
theorem q_turn_turn : oEq (.str "turn") (.str "turn") = some (.bl true) := oEq_ss (by decide +kernel) (by decide +kernel) (by decide +kernel)
theorem q_turn_rest : oEq (.str "turn") (.str "rest") = some (.bl false) := oEq_ss (by decide +kernel) (by decide +kernel) (by decide +kernel)
theorem q_turn_first : oEq (.str "turn") (.str "first") = some (.bl false) := oEq_ss (by decide +kernel) (by decide +kernel) (by decide +kernel)
theorem q_rest_text : oEq (.str "rest") (.str "text") = some (.bl false) := oEq_ss (by decide +kernel) (by decide +kernel) (by decide +kernel)
theorem q_rest_name : oEq (.str "rest") (.str "name") = some (.bl false) := oEq_ss (by decide +kernel) (by decide +kernel) (by decide +kernel)
theorem q_rest_many : oEq (.str "rest") (.str "many") = some (.bl false) := oEq_ss (by decide +kernel) (by decide +kernel) (by decide +kernel)
theorem q_rest_last : oEq (.str "rest") (.str "last") = some (.bl false) := oEq_ss (by decide +kernel) (by decide +kernel) (by decide +kernel)
theorem q_rest_join : oEq (.str "rest") (.str "join") = some (.bl false) := oEq_ss (by decide +kernel) (by decide +kernel) (by decide +kernel)
theorem q_rest_turn : oEq (.str "rest") (.str "turn") = some (.bl false) := oEq_ss (by decide +kernel) (by decide +kernel) (by decide +kernel)
theorem q_rest_rest : oEq (.str "rest") (.str "rest") = some (.bl true) := oEq_ss (by decide +kernel) (by decide +kernel) (by decide +kernel)
theorem q_rest_first : oEq (.str "rest") (.str "first") = some (.bl false) := oEq_ss (by decide +kernel) (by decide +kernel) (by decide +kernel)
theorem q_first_text : oEq (.str "first") (.str "text") = some (.bl false) := oEq_ss (by decide +kernel) (by decide +kernel) (by decide +kernel)
theorem q_first_name : oEq (.str "first") (.str "name") = some (.bl false) := oEq_ss (by decide +kernel) (by decide +kernel) (by decide +kernel)
theorem q_first_many : oEq (.str "first") (.str "many") = some (.bl false) := oEq_ss (by decide +kernel) (by decide +kernel) (by decide +kernel)
theorem q_first_last : oEq (.str "first") (.str "last") = some (.bl false) := oEq_ss (by decide +kernel) (by decide +kernel) (by decide +kernel)
theorem q_first_join : oEq (.str "first") (.str "join") = some (.bl false) := oEq_ss (by decide +kernel) (by decide +kernel) (by decide +kernel)
theorem q_first_turn : oEq (.str "first") (.str "turn") = some (.bl false) := oEq_ss (by decide +kernel) (by decide +kernel) (by decide +kernel)
theorem q_first_rest : oEq (.str "first") (.str "rest") = some (.bl false) := oEq_ss (by decide +kernel) (by decide +kernel) (by decide +kernel)
theorem q_first_first : oEq (.str "first") (.str "first") = some (.bl true) := oEq_ss (by decide +kernel) (by decide +kernel) (by decide +kernel)
theorem q_not_not : oEq (.str "not") (.str "not") = some (.bl true) := oEq_ss (by decide +kernel) (by decide +kernel) (by decide +kernel)
theorem q_not_same : oEq (.str "not") (.str "same") = some (.bl false) := oEq_ss (by decide +kernel) (by decide +kernel) (by decide +kernel)
theorem q_not_ahead : oEq (.str "not") (.str "ahead") = some (.bl false) := oEq_ss (by decide +kernel) (by decide +kernel) (by decide +kernel)
theorem q_not_in : oEq (.str "not") (.str "in") = some (.bl false) := oEq_ss (by decide +kernel) (by decide +kernel) (by decide +kernel)
theorem q_same_not : oEq (.str "same") (.str "not") = some (.bl false) := oEq_ss (by decide +kernel) (by decide +kernel) (by decide +kernel)
theorem q_same_same : oEq (.str "same") (.str "same") = some (.bl true) := oEq_ss (by decide +kernel) (by decide +kernel) (by decide +kernel)
theorem q_same_ahead : oEq (.str "same") (.str "ahead") = some (.bl false) := oEq_ss (by decide +kernel) (by decide +kernel) (by decide +kernel)
theorem q_same_in : oEq (.str "same") (.str "in") = some (.bl false) := oEq_ss (by decide +kernel) (by decide +kernel) (by decide +kernel)
theorem q_ahead_not : oEq (.str "ahead") (.str "not") = some (.bl false) := oEq_ss (by decide +kernel) (by decide +kernel) (by decide +kernel)
theorem q_ahead_same : oEq (.str "ahead") (.str "same") = some (.bl false) := oEq_ss (by decide +kernel) (by decide +kernel) (by decide +kernel)
theorem q_ahead_ahead : oEq (.str "ahead") (.str "ahead") = some (.bl true) := oEq_ss (by decide +kernel) (by decide +kernel) (by decide +kernel)
theorem q_ahead_in : oEq (.str "ahead") (.str "in") = some (.bl false) := oEq_ss (by decide +kernel) (by decide +kernel) (by decide +kernel)
theorem q_in_not : oEq (.str "in") (.str "not") = some (.bl false) := oEq_ss (by decide +kernel) (by decide +kernel) (by decide +kernel)
theorem q_in_same : oEq (.str "in") (.str "same") = some (.bl false) := oEq_ss (by decide +kernel) (by decide +kernel) (by decide +kernel)
theorem q_in_ahead : oEq (.str "in") (.str "ahead") = some (.bl false) := oEq_ss (by decide +kernel) (by decide +kernel) (by decide +kernel)
theorem q_in_in : oEq (.str "in") (.str "in") = some (.bl true) := oEq_ss (by decide +kernel) (by decide +kernel) (by decide +kernel)
theorem q_say_say : oEq (.str "say") (.str "say") = some (.bl true) := oEq_ss (by decide +kernel) (by decide +kernel) (by decide +kernel)
theorem q_say_let : oEq (.str "say") (.str "let") = some (.bl false) := oEq_ss (by decide +kernel) (by decide +kernel) (by decide +kernel)
theorem q_say_if : oEq (.str "say") (.str "if") = some (.bl false) := oEq_ss (by decide +kernel) (by decide +kernel) (by decide +kernel)
theorem q_say_each : oEq (.str "say") (.str "each") = some (.bl false) := oEq_ss (by decide +kernel) (by decide +kernel) (by decide +kernel)
theorem q_let_say : oEq (.str "let") (.str "say") = some (.bl false) := oEq_ss (by decide +kernel) (by decide +kernel) (by decide +kernel)
theorem q_let_let : oEq (.str "let") (.str "let") = some (.bl true) := oEq_ss (by decide +kernel) (by decide +kernel) (by decide +kernel)
theorem q_let_if : oEq (.str "let") (.str "if") = some (.bl false) := oEq_ss (by decide +kernel) (by decide +kernel) (by decide +kernel)
theorem q_let_each : oEq (.str "let") (.str "each") = some (.bl false) := oEq_ss (by decide +kernel) (by decide +kernel) (by decide +kernel)
theorem q_if_say : oEq (.str "if") (.str "say") = some (.bl false) := oEq_ss (by decide +kernel) (by decide +kernel) (by decide +kernel)
theorem q_if_let : oEq (.str "if") (.str "let") = some (.bl false) := oEq_ss (by decide +kernel) (by decide +kernel) (by decide +kernel)
theorem q_if_if : oEq (.str "if") (.str "if") = some (.bl true) := oEq_ss (by decide +kernel) (by decide +kernel) (by decide +kernel)
theorem q_if_each : oEq (.str "if") (.str "each") = some (.bl false) := oEq_ss (by decide +kernel) (by decide +kernel) (by decide +kernel)
theorem q_each_say : oEq (.str "each") (.str "say") = some (.bl false) := oEq_ss (by decide +kernel) (by decide +kernel) (by decide +kernel)
theorem q_each_let : oEq (.str "each") (.str "let") = some (.bl false) := oEq_ss (by decide +kernel) (by decide +kernel) (by decide +kernel)
theorem q_each_if : oEq (.str "each") (.str "if") = some (.bl false) := oEq_ss (by decide +kernel) (by decide +kernel) (by decide +kernel)
theorem q_each_each : oEq (.str "each") (.str "each") = some (.bl true) := oEq_ss (by decide +kernel) (by decide +kernel) (by decide +kernel)
theorem q_statement_statement : oEq (.str "statement") (.str "statement") = some (.bl true) := oEq_ss (by decide +kernel) (by decide +kernel) (by decide +kernel)
theorem q_statement_e : oEq (.str "statement") (.str "e") = some (.bl false) := oEq_ss (by decide +kernel) (by decide +kernel) (by decide +kernel)
theorem q_statement_c : oEq (.str "statement") (.str "c") = some (.bl false) := oEq_ss (by decide +kernel) (by decide +kernel) (by decide +kernel)
theorem q_statement_name : oEq (.str "statement") (.str "name") = some (.bl false) := oEq_ss (by decide +kernel) (by decide +kernel) (by decide +kernel)
theorem q_statement_word : oEq (.str "statement") (.str "word") = some (.bl false) := oEq_ss (by decide +kernel) (by decide +kernel) (by decide +kernel)
theorem q_statement_body : oEq (.str "statement") (.str "body") = some (.bl false) := oEq_ss (by decide +kernel) (by decide +kernel) (by decide +kernel)
theorem q_e_statement : oEq (.str "e") (.str "statement") = some (.bl false) := oEq_ss (by decide +kernel) (by decide +kernel) (by decide +kernel)
theorem q_e_e : oEq (.str "e") (.str "e") = some (.bl true) := oEq_ss (by decide +kernel) (by decide +kernel) (by decide +kernel)
theorem q_e_c : oEq (.str "e") (.str "c") = some (.bl false) := oEq_ss (by decide +kernel) (by decide +kernel) (by decide +kernel)
theorem q_e_name : oEq (.str "e") (.str "name") = some (.bl false) := oEq_ss (by decide +kernel) (by decide +kernel) (by decide +kernel)
theorem q_e_word : oEq (.str "e") (.str "word") = some (.bl false) := oEq_ss (by decide +kernel) (by decide +kernel) (by decide +kernel)
theorem q_e_body : oEq (.str "e") (.str "body") = some (.bl false) := oEq_ss (by decide +kernel) (by decide +kernel) (by decide +kernel)
theorem q_c_statement : oEq (.str "c") (.str "statement") = some (.bl false) := oEq_ss (by decide +kernel) (by decide +kernel) (by decide +kernel)
theorem q_c_e : oEq (.str "c") (.str "e") = some (.bl false) := oEq_ss (by decide +kernel) (by decide +kernel) (by decide +kernel)
theorem q_c_c : oEq (.str "c") (.str "c") = some (.bl true) := oEq_ss (by decide +kernel) (by decide +kernel) (by decide +kernel)
theorem q_c_name : oEq (.str "c") (.str "name") = some (.bl false) := oEq_ss (by decide +kernel) (by decide +kernel) (by decide +kernel)
theorem q_c_word : oEq (.str "c") (.str "word") = some (.bl false) := oEq_ss (by decide +kernel) (by decide +kernel) (by decide +kernel)
theorem q_c_body : oEq (.str "c") (.str "body") = some (.bl false) := oEq_ss (by decide +kernel) (by decide +kernel) (by decide +kernel)
theorem q_name_statement : oEq (.str "name") (.str "statement") = some (.bl false) := oEq_ss (by decide +kernel) (by decide +kernel) (by decide +kernel)
theorem q_name_e : oEq (.str "name") (.str "e") = some (.bl false) := oEq_ss (by decide +kernel) (by decide +kernel) (by decide +kernel)
theorem q_name_c : oEq (.str "name") (.str "c") = some (.bl false) := oEq_ss (by decide +kernel) (by decide +kernel) (by decide +kernel)
theorem q_name_word : oEq (.str "name") (.str "word") = some (.bl false) := oEq_ss (by decide +kernel) (by decide +kernel) (by decide +kernel)
theorem q_name_body : oEq (.str "name") (.str "body") = some (.bl false) := oEq_ss (by decide +kernel) (by decide +kernel) (by decide +kernel)
theorem q_word_statement : oEq (.str "word") (.str "statement") = some (.bl false) := oEq_ss (by decide +kernel) (by decide +kernel) (by decide +kernel)
theorem q_word_e : oEq (.str "word") (.str "e") = some (.bl false) := oEq_ss (by decide +kernel) (by decide +kernel) (by decide +kernel)
theorem q_word_c : oEq (.str "word") (.str "c") = some (.bl false) := oEq_ss (by decide +kernel) (by decide +kernel) (by decide +kernel)
theorem q_word_name : oEq (.str "word") (.str "name") = some (.bl false) := oEq_ss (by decide +kernel) (by decide +kernel) (by decide +kernel)
theorem q_word_word : oEq (.str "word") (.str "word") = some (.bl true) := oEq_ss (by decide +kernel) (by decide +kernel) (by decide +kernel)
theorem q_word_body : oEq (.str "word") (.str "body") = some (.bl false) := oEq_ss (by decide +kernel) (by decide +kernel) (by decide +kernel)
theorem q_body_statement : oEq (.str "body") (.str "statement") = some (.bl false) := oEq_ss (by decide +kernel) (by decide +kernel) (by decide +kernel)
theorem q_body_e : oEq (.str "body") (.str "e") = some (.bl false) := oEq_ss (by decide +kernel) (by decide +kernel) (by decide +kernel)
theorem q_body_c : oEq (.str "body") (.str "c") = some (.bl false) := oEq_ss (by decide +kernel) (by decide +kernel) (by decide +kernel)
theorem q_body_name : oEq (.str "body") (.str "name") = some (.bl false) := oEq_ss (by decide +kernel) (by decide +kernel) (by decide +kernel)
theorem q_body_word : oEq (.str "body") (.str "word") = some (.bl false) := oEq_ss (by decide +kernel) (by decide +kernel) (by decide +kernel)
theorem q_body_body : oEq (.str "body") (.str "body") = some (.bl true) := oEq_ss (by decide +kernel) (by decide +kernel) (by decide +kernel)
theorem q_not_each : oEq (.str "not") (.str "each") = some (.bl false) := oEq_ss (by decide +kernel) (by decide +kernel) (by decide +kernel)
theorem q_same_each : oEq (.str "same") (.str "each") = some (.bl false) := oEq_ss (by decide +kernel) (by decide +kernel) (by decide +kernel)
theorem q_ahead_each : oEq (.str "ahead") (.str "each") = some (.bl false) := oEq_ss (by decide +kernel) (by decide +kernel) (by decide +kernel)
theorem q_in_each : oEq (.str "in") (.str "each") = some (.bl false) := oEq_ss (by decide +kernel) (by decide +kernel) (by decide +kernel)
theorem q_text_each : oEq (.str "text") (.str "each") = some (.bl false) := oEq_ss (by decide +kernel) (by decide +kernel) (by decide +kernel)
theorem q_name_each : oEq (.str "name") (.str "each") = some (.bl false) := oEq_ss (by decide +kernel) (by decide +kernel) (by decide +kernel)
theorem q_many_each : oEq (.str "many") (.str "each") = some (.bl false) := oEq_ss (by decide +kernel) (by decide +kernel) (by decide +kernel)
theorem q_last_each : oEq (.str "last") (.str "each") = some (.bl false) := oEq_ss (by decide +kernel) (by decide +kernel) (by decide +kernel)
theorem q_join_each : oEq (.str "join") (.str "each") = some (.bl false) := oEq_ss (by decide +kernel) (by decide +kernel) (by decide +kernel)
theorem q_turn_each : oEq (.str "turn") (.str "each") = some (.bl false) := oEq_ss (by decide +kernel) (by decide +kernel) (by decide +kernel)
theorem q_rest_each : oEq (.str "rest") (.str "each") = some (.bl false) := oEq_ss (by decide +kernel) (by decide +kernel) (by decide +kernel)
theorem q_first_each : oEq (.str "first") (.str "each") = some (.bl false) := oEq_ss (by decide +kernel) (by decide +kernel) (by decide +kernel)
/-! ## expressions -/
inductive Ex where
  | text (w : Str) | name (n : Str) | many | last | join (a b : Ex) | turn (a : Ex) | rest (a : Ex) | first (a : Ex)
def Ex.d : Ex → D
  | .text w => .tup [.str "text", .str w]
  | .name n => .tup [.str "name", .str n]
  | .many => .tup [.str "many"]
  | .last => .tup [.str "last"]
  | .join a b => .tup [.str "join", a.d, b.d]
  | .turn a => .tup [.str "turn", a.d]
  | .rest a => .tup [.str "rest", a.d]
  | .first a => .tup [.str "first", a.d]
def Ex.dep : Ex → Nat
  | .join a b => max a.dep b.dep + 1
  | .turn a => a.dep + 1
  | .rest a => a.dep + 1
  | .first a => a.dep + 1
  | _ => 1
abbrev Me := List (Str × Str)
def Me.ks (m : Me) : List Key := m.map fun p => .inr p.1
def Me.vs (m : Me) : List D := m.map fun p => .str p.2
abbrev meD (m : Me) : D := .dk m.ks m.vs
def Me.get (n : Str) : Me → Option Str
  | [] => none
  | p :: r => if p.1 = n then some p.2 else Me.get n r
theorem find_me {n : Str} : ∀ m : Me, findD (.inr n) m.ks m.vs = (m.get n).map .str
  | [] => rfl
  | p :: r => by
    show findD (.inr n) (.inr p.1 :: Me.ks r) (.str p.2 :: Me.vs r) = _
    unfold findD Me.get
    by_cases h : p.1 = n
    · simp [h]
    · have : ¬ (Sum.inr p.1 : Key) = .inr n := fun e => h (Sum.inr.inj e)
      rw [if_neg this, if_neg h, find_me r]
theorem find_get {n x : Str} (m : Me) : (findD (.inr n) m.ks m.vs).getD (.str x) = .str ((m.get n).getD x) := by
  rw [find_me]; cases m.get n <;> rfl
def Ex.ev (row : List Str) (m : Me) : Ex → Str
  | .text w => w
  | .name n => (m.get n).getD ""
  | .many => (toString ((row.length : Nat) : Int) : String)
  | .last => row.getLast?.getD ""
  | .join a b => cutS (a.ev row m ++ b.ev row m) none (some 40)
  | .turn a => revS (a.ev row m)
  | .rest a => cutS (a.ev row m) (some 1) none
  | .first a => cutS (a.ev row m) none (some 1)
def Ex.Wds : Ex → Prop
  | .text w => Wd w
  | .join a b => a.Wds ∧ b.Wds
  | .turn a => a.Wds
  | .rest a => a.Wds
  | .first a => a.Wds
  | _ => True
def MeOk (m : Me) : Prop := ∀ p, p ∈ m → Wd p.2
def RowOk (row : List Str) : Prop := row.length ≤ 400 ∧ ∀ w, w ∈ row → Wd w
theorem get_wd {n : Str} : ∀ {m : Me}, MeOk m → Wd ((m.get n).getD "")
  | [], _ => wd_nil
  | p :: r, h => by
    unfold Me.get
    by_cases e : p.1 = n
    · rw [if_pos e]; exact h p (by simp)
    · rw [if_neg e]; exact get_wd fun q hq => h q (by simp [hq])
theorem ev_wd {row : List Str} {m : Me} (hr : RowOk row) (hm : MeOk m) : ∀ e : Ex, e.Wds → Wd (e.ev row m)
  | .text w, h => h
  | .name n, _ => get_wd hm
  | .many, _ => wd_num _ (by have := hr.1; omega)
  | .last, _ => by
    show Wd (row.getLast?.getD "")
    cases h : row.getLast? with
    | none => exact wd_nil
    | some w => exact hr.2 w (List.mem_of_getLast? h)
  | .join a b, h => (ev_wd hr hm a h.1).join (ev_wd hr hm b h.2)
  | .turn a, h => (ev_wd hr hm a h).rev
  | .rest a, h => (ev_wd hr hm a h).cut _ _
  | .first a, h => (ev_wd hr hm a h).cut _ _
abbrev rowD (row : List Str) : D := .tup (row.map .str)
theorem row_len {row : List Str} (hr : RowOk row) : (row.map D.str).length ≤ sizeLine := sl16 (by rw [List.length_map]; have := hr.1; omega)
theorem atI_last {row : List Str} {w : Str} (h : row.getLast? = some w) : atI (row.map D.str) (-1) = some (.str w) := by
  have hn : row ≠ [] := fun e => by rw [e] at h; cases h
  have h0 : 0 < row.length := List.length_pos_iff.mpr hn
  unfold atI ixN
  rw [if_neg (by omega), if_pos (by rw [List.length_map]; omega)]
  rw [List.getLast?_eq_getElem?] at h
  show (row.map D.str)[_]? = _
  rw [List.getElem?_map]
  have : ((-1 : Int) + ((row.map D.str).length : Nat)).toNat = row.length - 1 := by rw [List.length_map]; omega
  rw [this, h]; rfl
theorem sl_wd {s : Str} (h : Wd s) (lo hi : Option Int) : oSl (.str s) lo hi = some (.str (cutS s lo hi)) := if_pos h.line
theorem add_wd {a b : Str} (h : Wd a) (h2 : Wd b) : oAdd (.str a) (.str b) = some (.str (a ++ b)) := if_pos (sl16 (by have := h.len; have := h2.len; omega))
theorem sl_app {a b : Str} (h : Wd a) (h2 : Wd b) (lo hi : Option Int) : oSl (.str (a ++ b)) lo hi = some (.str (cutS (a ++ b) lo hi)) := if_pos (sl16 (by rw [app_len]; have := h.len; have := h2.len; omega))

theorem dep_pos : ∀ e : Ex, 1 ≤ e.dep := fun e => by cases e <;> simp [Ex.dep]
theorem last_or {row : List Str} : (row = [] ∧ row.getLast? = none) ∨ ∃ w, row.getLast? = some w ∧ 0 < row.length := by
  cases h : row.getLast? with
  | none => exact .inl ⟨List.getLast?_eq_none_iff.mp h, rfl⟩
  | some w => exact .inr ⟨w, rfl, by rw [List.getLast?_eq_getElem?] at h; have := (List.getElem?_eq_some_iff.mp h).1; omega⟩
theorem num_len {row : List Str} (hr : RowOk row) : (row.length : Int).natAbs.log2 < 1920 := by
  have h := hr.1
  have : (row.length : Int).natAbs = row.length := rfl
  rw [this]
  by_cases h0 : row.length = 0
  · rw [h0]; decide
  · exact (Nat.log2_lt h0).mpr (Nat.lt_of_le_of_lt h (Nat.lt_of_lt_of_le (by decide : 400 < 2 ^ 9) (Nat.pow_le_pow_right (by omega) (by omega))))
theorem e_told {row : List Str} {m : Me} (hr : RowOk row) (hm : MeOk m) : ∀ (e : Ex) (n k : Nat), e.dep ≤ n → e.Wds → sem_told n [.fz e.d, .fz (rowD row), .bor k (meD m)] = .val (.str (e.ev row m)) [.no, .no, .bor k (meD m)] := by
  intro e
  have lr := row_len hr
  have h40 : (40 : Int) = ((40 : Nat) : Int) := rfl
  have ln := num_len hr
  have lm : row.length ≤ sizeLine := sl16 (by have := hr.1; omega)
  induction e with
  | text w =>
    rintro n k hn ww
    obtain ⟨n, rfl⟩ : ∃ k, n = k + 1 := ⟨n - 1, by have := dep_pos (.text w); omega⟩
    refine fn_eq ?_
    walk_at "go body_told Ex.d q_text_text q_text_name q_text_many q_text_last q_text_join q_text_turn q_text_rest q_text_first q_name_text q_name_name q_name_many q_name_last q_name_join q_name_turn q_name_rest q_name_first q_many_text q_many_name q_many_many q_many_last q_many_join q_many_turn q_many_rest q_many_first q_last_text q_last_name q_last_many q_last_last q_last_join q_last_turn q_last_rest q_last_first q_join_text q_join_name q_join_many q_join_last q_join_join q_join_turn q_join_rest q_join_first q_turn_text q_turn_name q_turn_many q_turn_last q_turn_join q_turn_turn q_turn_rest q_turn_first q_rest_text q_rest_name q_rest_many q_rest_last q_rest_join q_rest_turn q_rest_rest q_rest_first q_first_text q_first_name q_first_many q_first_last q_first_join q_first_turn q_first_rest q_first_first"
    rfl
  | name w =>
    rintro n k hn ww
    obtain ⟨n, rfl⟩ : ∃ k, n = k + 1 := ⟨n - 1, by have := dep_pos (.name w); omega⟩
    have hf := find_get (n := w) (x := "") m
    refine fn_eq ?_
    walk_at "go body_told Ex.d q_text_text q_text_name q_text_many q_text_last q_text_join q_text_turn q_text_rest q_text_first q_name_text q_name_name q_name_many q_name_last q_name_join q_name_turn q_name_rest q_name_first q_many_text q_many_name q_many_many q_many_last q_many_join q_many_turn q_many_rest q_many_first q_last_text q_last_name q_last_many q_last_last q_last_join q_last_turn q_last_rest q_last_first q_join_text q_join_name q_join_many q_join_last q_join_join q_join_turn q_join_rest q_join_first q_turn_text q_turn_name q_turn_many q_turn_last q_turn_join q_turn_turn q_turn_rest q_turn_first q_rest_text q_rest_name q_rest_many q_rest_last q_rest_join q_rest_turn q_rest_rest q_rest_first q_first_text q_first_name q_first_many q_first_last q_first_join q_first_turn q_first_rest q_first_first hf"
    rfl
  | many =>
    rintro n k hn ww
    obtain ⟨n, rfl⟩ : ∃ k, n = k + 1 := ⟨n - 1, by have := dep_pos .many; omega⟩
    refine fn_eq ?_
    walk_at "go body_told Ex.d q_text_text q_text_name q_text_many q_text_last q_text_join q_text_turn q_text_rest q_text_first q_name_text q_name_name q_name_many q_name_last q_name_join q_name_turn q_name_rest q_name_first q_many_text q_many_name q_many_many q_many_last q_many_join q_many_turn q_many_rest q_many_first q_last_text q_last_name q_last_many q_last_last q_last_join q_last_turn q_last_rest q_last_first q_join_text q_join_name q_join_many q_join_last q_join_join q_join_turn q_join_rest q_join_first q_turn_text q_turn_name q_turn_many q_turn_last q_turn_join q_turn_turn q_turn_rest q_turn_first q_rest_text q_rest_name q_rest_many q_rest_last q_rest_join q_rest_turn q_rest_rest q_rest_first q_first_text q_first_name q_first_many q_first_last q_first_join q_first_turn q_first_rest q_first_first List.length_map lm ln"
    rfl
  | last =>
    rintro n k hn ww
    obtain ⟨n, rfl⟩ : ∃ k, n = k + 1 := ⟨n - 1, by have := dep_pos .last; omega⟩
    refine fn_eq ?_
    rcases last_or (row := row) with ⟨rfl, h⟩ | ⟨w, h, h0⟩
    · walk_at "go body_told Ex.d q_text_text q_text_name q_text_many q_text_last q_text_join q_text_turn q_text_rest q_text_first q_name_text q_name_name q_name_many q_name_last q_name_join q_name_turn q_name_rest q_name_first q_many_text q_many_name q_many_many q_many_last q_many_join q_many_turn q_many_rest q_many_first q_last_text q_last_name q_last_many q_last_last q_last_join q_last_turn q_last_rest q_last_first q_join_text q_join_name q_join_many q_join_last q_join_join q_join_turn q_join_rest q_join_first q_turn_text q_turn_name q_turn_many q_turn_last q_turn_join q_turn_turn q_turn_rest q_turn_first q_rest_text q_rest_name q_rest_many q_rest_last q_rest_join q_rest_turn q_rest_rest q_rest_first q_first_text q_first_name q_first_many q_first_last q_first_join q_first_turn q_first_rest q_first_first List.length_map lm ln List.map_nil"
      rfl
    · have ha := atI_last h
      have h1 : decide ((0 : Int) < (row.length : Int)) = true := decide_eq_true (by omega)
      walk_at "go body_told Ex.d q_text_text q_text_name q_text_many q_text_last q_text_join q_text_turn q_text_rest q_text_first q_name_text q_name_name q_name_many q_name_last q_name_join q_name_turn q_name_rest q_name_first q_many_text q_many_name q_many_many q_many_last q_many_join q_many_turn q_many_rest q_many_first q_last_text q_last_name q_last_many q_last_last q_last_join q_last_turn q_last_rest q_last_first q_join_text q_join_name q_join_many q_join_last q_join_join q_join_turn q_join_rest q_join_first q_turn_text q_turn_name q_turn_many q_turn_last q_turn_join q_turn_turn q_turn_rest q_turn_first q_rest_text q_rest_name q_rest_many q_rest_last q_rest_join q_rest_turn q_rest_rest q_rest_first q_first_text q_first_name q_first_many q_first_last q_first_join q_first_turn q_first_rest q_first_first List.length_map lm ln ha h1"
      simp [Ex.ev, h]
  | join a b iha ihb =>
    rintro n k hn ⟨wa, wb⟩
    rw [Ex.dep] at hn
    obtain ⟨n, rfl⟩ : ∃ k, n = k + 1 := ⟨n - 1, by omega⟩
    have ea := fun k => iha n k (by omega) wa
    have eb := fun k => ihb n k (by omega) wb
    have va := ev_wd hr hm a wa
    have vb := ev_wd hr hm b wb
    have h1 : (a.ev row m).length + (b.ev row m).length ≤ sizeLine := sl16 (by have := va.len; have := vb.len; omega)
    have h2 := sl_app va vb none (some 40)
    refine fn_eq ?_
    walk_at "go body_told Ex.d q_text_text q_text_name q_text_many q_text_last q_text_join q_text_turn q_text_rest q_text_first q_name_text q_name_name q_name_many q_name_last q_name_join q_name_turn q_name_rest q_name_first q_many_text q_many_name q_many_many q_many_last q_many_join q_many_turn q_many_rest q_many_first q_last_text q_last_name q_last_many q_last_last q_last_join q_last_turn q_last_rest q_last_first q_join_text q_join_name q_join_many q_join_last q_join_join q_join_turn q_join_rest q_join_first q_turn_text q_turn_name q_turn_many q_turn_last q_turn_join q_turn_turn q_turn_rest q_turn_first q_rest_text q_rest_name q_rest_many q_rest_last q_rest_join q_rest_turn q_rest_rest q_rest_first q_first_text q_first_name q_first_many q_first_last q_first_join q_first_turn q_first_rest q_first_first ea eb h2"
    rfl
  | turn a iha =>
    rintro n k hn wa
    rw [Ex.dep] at hn
    obtain ⟨n, rfl⟩ : ∃ k, n = k + 1 := ⟨n - 1, by omega⟩
    have ea := fun k => iha n k (by omega) wa
    have va := (ev_wd hr hm a wa).line
    refine fn_eq ?_
    walk_at "go body_told Ex.d q_text_text q_text_name q_text_many q_text_last q_text_join q_text_turn q_text_rest q_text_first q_name_text q_name_name q_name_many q_name_last q_name_join q_name_turn q_name_rest q_name_first q_many_text q_many_name q_many_many q_many_last q_many_join q_many_turn q_many_rest q_many_first q_last_text q_last_name q_last_many q_last_last q_last_join q_last_turn q_last_rest q_last_first q_join_text q_join_name q_join_many q_join_last q_join_join q_join_turn q_join_rest q_join_first q_turn_text q_turn_name q_turn_many q_turn_last q_turn_join q_turn_turn q_turn_rest q_turn_first q_rest_text q_rest_name q_rest_many q_rest_last q_rest_join q_rest_turn q_rest_rest q_rest_first q_first_text q_first_name q_first_many q_first_last q_first_join q_first_turn q_first_rest q_first_first ea va"
    rfl
  | rest a iha =>
    rintro n k hn wa
    rw [Ex.dep] at hn
    obtain ⟨n, rfl⟩ : ∃ k, n = k + 1 := ⟨n - 1, by omega⟩
    have ea := fun k => iha n k (by omega) wa
    have h1 := sl_wd (ev_wd hr hm a wa) (some 1) none
    refine fn_eq ?_
    walk_at "go body_told Ex.d q_text_text q_text_name q_text_many q_text_last q_text_join q_text_turn q_text_rest q_text_first q_name_text q_name_name q_name_many q_name_last q_name_join q_name_turn q_name_rest q_name_first q_many_text q_many_name q_many_many q_many_last q_many_join q_many_turn q_many_rest q_many_first q_last_text q_last_name q_last_many q_last_last q_last_join q_last_turn q_last_rest q_last_first q_join_text q_join_name q_join_many q_join_last q_join_join q_join_turn q_join_rest q_join_first q_turn_text q_turn_name q_turn_many q_turn_last q_turn_join q_turn_turn q_turn_rest q_turn_first q_rest_text q_rest_name q_rest_many q_rest_last q_rest_join q_rest_turn q_rest_rest q_rest_first q_first_text q_first_name q_first_many q_first_last q_first_join q_first_turn q_first_rest q_first_first ea h1"
    rfl
  | first a iha =>
    rintro n k hn wa
    rw [Ex.dep] at hn
    obtain ⟨n, rfl⟩ : ∃ k, n = k + 1 := ⟨n - 1, by omega⟩
    have ea := fun k => iha n k (by omega) wa
    have h1 := sl_wd (ev_wd hr hm a wa) none (some 1)
    refine fn_eq ?_
    walk_at "go body_told Ex.d q_text_text q_text_name q_text_many q_text_last q_text_join q_text_turn q_text_rest q_text_first q_name_text q_name_name q_name_many q_name_last q_name_join q_name_turn q_name_rest q_name_first q_many_text q_many_name q_many_many q_many_last q_many_join q_many_turn q_many_rest q_many_first q_last_text q_last_name q_last_many q_last_last q_last_join q_last_turn q_last_rest q_last_first q_join_text q_join_name q_join_many q_join_last q_join_join q_join_turn q_join_rest q_join_first q_turn_text q_turn_name q_turn_many q_turn_last q_turn_join q_turn_turn q_turn_rest q_turn_first q_rest_text q_rest_name q_rest_many q_rest_last q_rest_join q_rest_turn q_rest_rest q_rest_first q_first_text q_first_name q_first_many q_first_last q_first_join q_first_turn q_first_rest q_first_first ea h1"
    rfl
theorem join_one : ∀ cs : List Nat, Str.join (Str.ofString "") (cs.map fun c => (⟨#[c]⟩ : Str)) = ⟨cs.toArray⟩
  | [] => rfl
  | [c] => rfl
  | c :: d :: r => by
    have ih := join_one (d :: r)
    show (⟨#[c]⟩ : Str) ++ Str.ofString "" ++ Str.join (Str.ofString "") ((d :: r).map fun c => (⟨#[c]⟩ : Str)) = _
    rw [ih]
    have e0 : (⟨#[c]⟩ : Str) ++ Str.ofString "" = ⟨#[c]⟩ := by
      show (⟨#[c] ++ (Str.ofString "").cps⟩ : Str) = _
      rw [show (Str.ofString "").cps = #[] by decide +kernel, Array.append_empty]
    rw [e0]
    show (⟨#[c] ++ (d :: r).toArray⟩ : Str) = _
    congr 1
    simp
theorem txt_one (cs : List Nat) : Txt.join (Str.ofString "") (cs.map fun c => (⟨#[c]⟩ : Str)) = ⟨cs.toArray⟩ := by
  rw [show Txt.join (Str.ofString "") (cs.map fun c => (⟨#[c]⟩ : Str)) = Str.join (Str.ofString "") (cs.map fun c => (⟨#[c]⟩ : Str)) from StrLaws.glued_eq_join _ _, join_one]
theorem e_value {row : List Str} {m : Me} (hr : RowOk row) (hm : MeOk m) : ∀ (e : Ex) (n k : Nat), e.dep ≤ n → e.Wds → sem__law_value n [.fz e.d, .fz (rowD row), .bor k (meD m)] = .val (.str (e.ev row m)) [.no, .no, .bor k (meD m)] := by
  intro e
  have lr := row_len hr
  have h40 : (40 : Int) = ((40 : Nat) : Int) := rfl
  have ln := num_len hr
  have lm : row.length ≤ sizeLine := sl16 (by have := hr.1; omega)
  induction e with
  | text w =>
    rintro n k hn ww
    obtain ⟨n, rfl⟩ : ∃ k, n = k + 1 := ⟨n - 1, by have := dep_pos (.text w); omega⟩
    refine fn_eq ?_
    walk_at "go body__law_value Ex.d q_text_text q_text_name q_text_many q_text_last q_text_join q_text_turn q_text_rest q_text_first q_name_text q_name_name q_name_many q_name_last q_name_join q_name_turn q_name_rest q_name_first q_many_text q_many_name q_many_many q_many_last q_many_join q_many_turn q_many_rest q_many_first q_last_text q_last_name q_last_many q_last_last q_last_join q_last_turn q_last_rest q_last_first q_join_text q_join_name q_join_many q_join_last q_join_join q_join_turn q_join_rest q_join_first q_turn_text q_turn_name q_turn_many q_turn_last q_turn_join q_turn_turn q_turn_rest q_turn_first q_rest_text q_rest_name q_rest_many q_rest_last q_rest_join q_rest_turn q_rest_rest q_rest_first q_first_text q_first_name q_first_many q_first_last q_first_join q_first_turn q_first_rest q_first_first"
    rfl
  | name w =>
    rintro n k hn ww
    obtain ⟨n, rfl⟩ : ∃ k, n = k + 1 := ⟨n - 1, by have := dep_pos (.name w); omega⟩
    have hf := find_get (n := w) (x := "") m
    refine fn_eq ?_
    walk_at "go body__law_value Ex.d q_text_text q_text_name q_text_many q_text_last q_text_join q_text_turn q_text_rest q_text_first q_name_text q_name_name q_name_many q_name_last q_name_join q_name_turn q_name_rest q_name_first q_many_text q_many_name q_many_many q_many_last q_many_join q_many_turn q_many_rest q_many_first q_last_text q_last_name q_last_many q_last_last q_last_join q_last_turn q_last_rest q_last_first q_join_text q_join_name q_join_many q_join_last q_join_join q_join_turn q_join_rest q_join_first q_turn_text q_turn_name q_turn_many q_turn_last q_turn_join q_turn_turn q_turn_rest q_turn_first q_rest_text q_rest_name q_rest_many q_rest_last q_rest_join q_rest_turn q_rest_rest q_rest_first q_first_text q_first_name q_first_many q_first_last q_first_join q_first_turn q_first_rest q_first_first hf"
    rfl
  | many =>
    rintro n k hn ww
    obtain ⟨n, rfl⟩ : ∃ k, n = k + 1 := ⟨n - 1, by have := dep_pos .many; omega⟩
    refine fn_eq ?_
    walk_at "go body__law_value Ex.d q_text_text q_text_name q_text_many q_text_last q_text_join q_text_turn q_text_rest q_text_first q_name_text q_name_name q_name_many q_name_last q_name_join q_name_turn q_name_rest q_name_first q_many_text q_many_name q_many_many q_many_last q_many_join q_many_turn q_many_rest q_many_first q_last_text q_last_name q_last_many q_last_last q_last_join q_last_turn q_last_rest q_last_first q_join_text q_join_name q_join_many q_join_last q_join_join q_join_turn q_join_rest q_join_first q_turn_text q_turn_name q_turn_many q_turn_last q_turn_join q_turn_turn q_turn_rest q_turn_first q_rest_text q_rest_name q_rest_many q_rest_last q_rest_join q_rest_turn q_rest_rest q_rest_first q_first_text q_first_name q_first_many q_first_last q_first_join q_first_turn q_first_rest q_first_first List.length_map lm ln"
    rfl
  | last =>
    rintro n k hn ww
    obtain ⟨n, rfl⟩ : ∃ k, n = k + 1 := ⟨n - 1, by have := dep_pos .last; omega⟩
    refine fn_eq ?_
    rcases last_or (row := row) with ⟨rfl, h⟩ | ⟨w, h, h0⟩
    · walk_at "go body__law_value Ex.d q_text_text q_text_name q_text_many q_text_last q_text_join q_text_turn q_text_rest q_text_first q_name_text q_name_name q_name_many q_name_last q_name_join q_name_turn q_name_rest q_name_first q_many_text q_many_name q_many_many q_many_last q_many_join q_many_turn q_many_rest q_many_first q_last_text q_last_name q_last_many q_last_last q_last_join q_last_turn q_last_rest q_last_first q_join_text q_join_name q_join_many q_join_last q_join_join q_join_turn q_join_rest q_join_first q_turn_text q_turn_name q_turn_many q_turn_last q_turn_join q_turn_turn q_turn_rest q_turn_first q_rest_text q_rest_name q_rest_many q_rest_last q_rest_join q_rest_turn q_rest_rest q_rest_first q_first_text q_first_name q_first_many q_first_last q_first_join q_first_turn q_first_rest q_first_first List.length_map lm ln List.map_nil"
      rfl
    · have ha := atI_last h
      have h1 : decide ((0 : Int) < (row.length : Int)) = true := decide_eq_true (by omega)
      walk_at "go body__law_value Ex.d q_text_text q_text_name q_text_many q_text_last q_text_join q_text_turn q_text_rest q_text_first q_name_text q_name_name q_name_many q_name_last q_name_join q_name_turn q_name_rest q_name_first q_many_text q_many_name q_many_many q_many_last q_many_join q_many_turn q_many_rest q_many_first q_last_text q_last_name q_last_many q_last_last q_last_join q_last_turn q_last_rest q_last_first q_join_text q_join_name q_join_many q_join_last q_join_join q_join_turn q_join_rest q_join_first q_turn_text q_turn_name q_turn_many q_turn_last q_turn_join q_turn_turn q_turn_rest q_turn_first q_rest_text q_rest_name q_rest_many q_rest_last q_rest_join q_rest_turn q_rest_rest q_rest_first q_first_text q_first_name q_first_many q_first_last q_first_join q_first_turn q_first_rest q_first_first List.length_map lm ln ha h1"
      simp [Ex.ev, h]
  | join a b iha ihb =>
    rintro n k hn ⟨wa, wb⟩
    rw [Ex.dep] at hn
    obtain ⟨n, rfl⟩ : ∃ k, n = k + 1 := ⟨n - 1, by omega⟩
    have ea := fun k => iha n k (by omega) wa
    have eb := fun k => ihb n k (by omega) wb
    have va := ev_wd hr hm a wa
    have vb := ev_wd hr hm b wb
    have h1 : (a.ev row m).length + (b.ev row m).length ≤ sizeLine := sl16 (by have := va.len; have := vb.len; omega)
    have h2 := sl_app va vb none (some 40)
    refine fn_eq ?_
    walk_at "go body__law_value Ex.d q_text_text q_text_name q_text_many q_text_last q_text_join q_text_turn q_text_rest q_text_first q_name_text q_name_name q_name_many q_name_last q_name_join q_name_turn q_name_rest q_name_first q_many_text q_many_name q_many_many q_many_last q_many_join q_many_turn q_many_rest q_many_first q_last_text q_last_name q_last_many q_last_last q_last_join q_last_turn q_last_rest q_last_first q_join_text q_join_name q_join_many q_join_last q_join_join q_join_turn q_join_rest q_join_first q_turn_text q_turn_name q_turn_many q_turn_last q_turn_join q_turn_turn q_turn_rest q_turn_first q_rest_text q_rest_name q_rest_many q_rest_last q_rest_join q_rest_turn q_rest_rest q_rest_first q_first_text q_first_name q_first_many q_first_last q_first_join q_first_turn q_first_rest q_first_first ea eb h2"
    rfl
  | turn a iha =>
    rintro n k hn wa
    rw [Ex.dep] at hn
    obtain ⟨n, rfl⟩ : ∃ k, n = k + 1 := ⟨n - 1, by omega⟩
    have ea := fun k => iha n k (by omega) wa
    have wv := ev_wd hr hm a wa
    have va := wv.line
    have hz : (a.ev row m).length ≤ 40 := wv.len
    have hit := itR_nat (n := (a.ev row m).length) (by omega)
    refine fn_eq ?_
    walk_at "go body__law_value Ex.d q_text_text q_text_name q_text_many q_text_last q_text_join q_text_turn q_text_rest q_text_first q_name_text q_name_name q_name_many q_name_last q_name_join q_name_turn q_name_rest q_name_first q_many_text q_many_name q_many_many q_many_last q_many_join q_many_turn q_many_rest q_many_first q_last_text q_last_name q_last_many q_last_last q_last_join q_last_turn q_last_rest q_last_first q_join_text q_join_name q_join_many q_join_last q_join_join q_join_turn q_join_rest q_join_first q_turn_text q_turn_name q_turn_many q_turn_last q_turn_join q_turn_turn q_turn_rest q_turn_first q_rest_text q_rest_name q_rest_many q_rest_last q_rest_join q_rest_turn q_rest_rest q_rest_first q_first_text q_first_name q_first_many q_first_last q_first_join q_first_turn q_first_rest q_first_first ea va hit"
    refine lc_rng va (fun i acc E => acc = ((a.ev row m).cps.toList.reverse.take i).map (fun c => D.str ⟨#[c]⟩) ∧ E = [.fz (.tup [.str "turn", a.d]), .fz (rowD row), .bor k (meD m), .fz (.str (a.ev row m)), .no]) ⟨rfl, rfl⟩ ?_ ?_
    · rintro i acc E hi ⟨rfl, rfl⟩
      have hl : (a.ev row m).cps.toList.length = (a.ev row m).length := rfl
      obtain ⟨c, hc⟩ : ∃ c, (a.ev row m).cps.toList[(a.ev row m).length - 1 - i]? = some c := ⟨_, List.getElem?_eq_getElem (by omega)⟩
      have gx : oIx (.str (a.ev row m)) (.int ((a.ev row m).length - 1 - (i : Int))) = some (.str ⟨#[c]⟩) := by
        unfold oIx
        simp only [if_pos va]
        rw [atI_pos (by omega)]
        have : (((a.ev row m).length : Int) - 1 - (i : Int)).toNat = (a.ev row m).length - 1 - i := by omega
        rw [this, hc]; rfl
      walk_at "go va gx"
      rw [List.take_add_one, List.map_append]
      congr 1
      rw [List.getElem?_reverse (by omega), hl, hc]; rfl
    · rintro acc E2 ⟨rfl, rfl⟩
      rw [List.take_of_length_le (by rw [List.length_reverse]; exact Nat.le_refl _)]
      have hj : oJoin (.str "") (.lst ((a.ev row m).cps.toList.reverse.map fun c => D.str ⟨#[c]⟩)) = some (.str (revS (a.ev row m))) := by
        have e := x_join (y := Str.ofString "") (ss := (a.ev row m).cps.toList.reverse.map fun c => (⟨#[c]⟩ : Str)) (n := 1) (fun s hs => by
          obtain ⟨c, _, rfl⟩ := List.mem_map.mp hs; exact Nat.le_refl _) (by rw [List.length_map, List.length_reverse, show (Str.ofString "").length = 0 by decide +kernel]; show (a.ev row m).length * 1 + _ ≤ _; omega)
        rw [List.map_map] at e
        have e1 : (D.str ∘ fun c => (⟨#[c]⟩ : Str)) = fun c => D.str ⟨#[c]⟩ := rfl
        rw [e1] at e
        rw [e, txt_one]
        rfl
      walk_at "go hj"
      rfl
  | rest a iha =>
    rintro n k hn wa
    rw [Ex.dep] at hn
    obtain ⟨n, rfl⟩ : ∃ k, n = k + 1 := ⟨n - 1, by omega⟩
    have ea := fun k => iha n k (by omega) wa
    have h1 := sl_wd (ev_wd hr hm a wa) (some 1) none
    refine fn_eq ?_
    walk_at "go body__law_value Ex.d q_text_text q_text_name q_text_many q_text_last q_text_join q_text_turn q_text_rest q_text_first q_name_text q_name_name q_name_many q_name_last q_name_join q_name_turn q_name_rest q_name_first q_many_text q_many_name q_many_many q_many_last q_many_join q_many_turn q_many_rest q_many_first q_last_text q_last_name q_last_many q_last_last q_last_join q_last_turn q_last_rest q_last_first q_join_text q_join_name q_join_many q_join_last q_join_join q_join_turn q_join_rest q_join_first q_turn_text q_turn_name q_turn_many q_turn_last q_turn_join q_turn_turn q_turn_rest q_turn_first q_rest_text q_rest_name q_rest_many q_rest_last q_rest_join q_rest_turn q_rest_rest q_rest_first q_first_text q_first_name q_first_many q_first_last q_first_join q_first_turn q_first_rest q_first_first ea h1"
    rfl
  | first a iha =>
    rintro n k hn wa
    rw [Ex.dep] at hn
    obtain ⟨n, rfl⟩ : ∃ k, n = k + 1 := ⟨n - 1, by omega⟩
    have ea := fun k => iha n k (by omega) wa
    have h1 := sl_wd (ev_wd hr hm a wa) none (some 1)
    refine fn_eq ?_
    walk_at "go body__law_value Ex.d q_text_text q_text_name q_text_many q_text_last q_text_join q_text_turn q_text_rest q_text_first q_name_text q_name_name q_name_many q_name_last q_name_join q_name_turn q_name_rest q_name_first q_many_text q_many_name q_many_many q_many_last q_many_join q_many_turn q_many_rest q_many_first q_last_text q_last_name q_last_many q_last_last q_last_join q_last_turn q_last_rest q_last_first q_join_text q_join_name q_join_many q_join_last q_join_join q_join_turn q_join_rest q_join_first q_turn_text q_turn_name q_turn_many q_turn_last q_turn_join q_turn_turn q_turn_rest q_turn_first q_rest_text q_rest_name q_rest_many q_rest_last q_rest_join q_rest_turn q_rest_rest q_rest_first q_first_text q_first_name q_first_many q_first_last q_first_join q_first_turn q_first_rest q_first_first ea h1"
    rfl

/-! ## conditions -/
inductive Cn where
  | same (a b : Ex) | ahead (a b : Ex) | isin (a b : Ex) | no (c : Cn)
def Cn.d : Cn → D
  | .same a b => .tup [.str "same", a.d, b.d]
  | .ahead a b => .tup [.str "ahead", a.d, b.d]
  | .isin a b => .tup [.str "in", a.d, b.d]
  | .no c => .tup [.str "not", c.d]
def Cn.dep : Cn → Nat
  | .same a b => max a.dep b.dep + 1
  | .ahead a b => max a.dep b.dep + 1
  | .isin a b => max a.dep b.dep + 1
  | .no c => c.dep + 1
def Cn.ev (row : List Str) (m : Me) : Cn → Bool
  | .same a b => a.ev row m == b.ev row m
  | .ahead a b => decide ((a.ev row m).cps.toList < (b.ev row m).cps.toList)
  | .isin a b => !(Builtin.Str.occurrences (b.ev row m) (a.ev row m) 0 (b.ev row m).length 1).isEmpty
  | .no c => !(c.ev row m)
def Cn.Wds : Cn → Prop
  | .same a b => a.Wds ∧ b.Wds
  | .ahead a b => a.Wds ∧ b.Wds
  | .isin a b => a.Wds ∧ b.Wds
  | .no c => c.Wds
theorem cdep_pos : ∀ c : Cn, 1 ≤ c.dep := fun c => by cases c <;> simp [Cn.dep]
theorem oLt_s {a b : Str} : oLt (.str a) (.str b) = some (.bl (decide (a.cps.toList < b.cps.toList))) := rfl
theorem oIn_s {a b : Str} : oIn (.str a) (.str b) = some (.bl (!(Builtin.Str.occurrences b a 0 b.length 1).isEmpty)) := rfl
theorem e_is_so {row : List Str} {m : Me} (hr : RowOk row) (hm : MeOk m) : ∀ (c : Cn) (n k : Nat), c.dep ≤ n → c.dep ≤ 25 → c.Wds → sem_is_so n [.fz c.d, .fz (rowD row), .bor k (meD m)] = .val (.bl (c.ev row m)) [.no, .no, .bor k (meD m)] := by
  intro c
  induction c with
  | same a b =>
    rintro n k hn h25 ⟨wa, wb⟩
    rw [Cn.dep] at hn h25
    obtain ⟨n, rfl⟩ : ∃ k, n = k + 1 := ⟨n - 1, by omega⟩
    have ea := fun k => e_told hr hm a 25 k (by omega) wa
    have eb := fun k => e_told hr hm b 25 k (by omega) wb
    have h1 := oEq_ss (ev_wd hr hm a wa).ok (ev_wd hr hm b wb).ok rfl
    refine fn_eq ?_
    walk_at "go body_is_so Cn.d q_not_not q_not_same q_not_ahead q_not_in q_same_not q_same_same q_same_ahead q_same_in q_ahead_not q_ahead_same q_ahead_ahead q_ahead_in q_in_not q_in_same q_in_ahead q_in_in ea eb h1 oIn_s"
    rfl
  | ahead a b =>
    rintro n k hn h25 ⟨wa, wb⟩
    rw [Cn.dep] at hn h25
    obtain ⟨n, rfl⟩ : ∃ k, n = k + 1 := ⟨n - 1, by omega⟩
    have ea := fun k => e_told hr hm a 25 k (by omega) wa
    have eb := fun k => e_told hr hm b 25 k (by omega) wb
    have h1 := oEq_ss (ev_wd hr hm a wa).ok (ev_wd hr hm b wb).ok rfl
    refine fn_eq ?_
    walk_at "go body_is_so Cn.d q_not_not q_not_same q_not_ahead q_not_in q_same_not q_same_same q_same_ahead q_same_in q_ahead_not q_ahead_same q_ahead_ahead q_ahead_in q_in_not q_in_same q_in_ahead q_in_in ea eb h1 oIn_s"
    rfl
  | isin a b =>
    rintro n k hn h25 ⟨wa, wb⟩
    rw [Cn.dep] at hn h25
    obtain ⟨n, rfl⟩ : ∃ k, n = k + 1 := ⟨n - 1, by omega⟩
    have ea := fun k => e_told hr hm a 25 k (by omega) wa
    have eb := fun k => e_told hr hm b 25 k (by omega) wb
    have h1 := oEq_ss (ev_wd hr hm a wa).ok (ev_wd hr hm b wb).ok rfl
    refine fn_eq ?_
    walk_at "go body_is_so Cn.d q_not_not q_not_same q_not_ahead q_not_in q_same_not q_same_same q_same_ahead q_same_in q_ahead_not q_ahead_same q_ahead_ahead q_ahead_in q_in_not q_in_same q_in_ahead q_in_in ea eb h1 oIn_s"
    rfl
  | no c ih =>
    rintro n k hn h25 wc
    rw [Cn.dep] at hn h25
    obtain ⟨n, rfl⟩ : ∃ k, n = k + 1 := ⟨n - 1, by omega⟩
    have ec := fun k => ih n k (by omega) (by omega) wc
    refine fn_eq ?_
    walk_at "go body_is_so Cn.d q_not_not q_not_same q_not_ahead q_not_in q_same_not q_same_same q_same_ahead q_same_in q_ahead_not q_ahead_same q_ahead_ahead q_ahead_in q_in_not q_in_same q_in_ahead q_in_in ec"
    rfl
theorem e_law_is_so {row : List Str} {m : Me} (hr : RowOk row) (hm : MeOk m) : ∀ (c : Cn) (n k : Nat), c.dep ≤ n → c.dep ≤ 25 → c.Wds → sem__law_is_so n [.fz c.d, .fz (rowD row), .bor k (meD m)] = .val (.bl (c.ev row m)) [.no, .no, .bor k (meD m)] := by
  intro c
  induction c with
  | same a b =>
    rintro n k hn h25 ⟨wa, wb⟩
    rw [Cn.dep] at hn h25
    obtain ⟨n, rfl⟩ : ∃ k, n = k + 1 := ⟨n - 1, by omega⟩
    have ea := fun k => e_value hr hm a 25 k (by omega) wa
    have eb := fun k => e_value hr hm b 25 k (by omega) wb
    have h1 := oEq_ss (ev_wd hr hm a wa).ok (ev_wd hr hm b wb).ok rfl
    refine fn_eq ?_
    walk_at "go body__law_is_so Cn.d q_not_not q_not_same q_not_ahead q_not_in q_same_not q_same_same q_same_ahead q_same_in q_ahead_not q_ahead_same q_ahead_ahead q_ahead_in q_in_not q_in_same q_in_ahead q_in_in ea eb h1 oIn_s"
    rfl
  | ahead a b =>
    rintro n k hn h25 ⟨wa, wb⟩
    rw [Cn.dep] at hn h25
    obtain ⟨n, rfl⟩ : ∃ k, n = k + 1 := ⟨n - 1, by omega⟩
    have ea := fun k => e_value hr hm a 25 k (by omega) wa
    have eb := fun k => e_value hr hm b 25 k (by omega) wb
    have h1 := oEq_ss (ev_wd hr hm a wa).ok (ev_wd hr hm b wb).ok rfl
    refine fn_eq ?_
    walk_at "go body__law_is_so Cn.d q_not_not q_not_same q_not_ahead q_not_in q_same_not q_same_same q_same_ahead q_same_in q_ahead_not q_ahead_same q_ahead_ahead q_ahead_in q_in_not q_in_same q_in_ahead q_in_in ea eb h1 oIn_s"
    rfl
  | isin a b =>
    rintro n k hn h25 ⟨wa, wb⟩
    rw [Cn.dep] at hn h25
    obtain ⟨n, rfl⟩ : ∃ k, n = k + 1 := ⟨n - 1, by omega⟩
    have ea := fun k => e_value hr hm a 25 k (by omega) wa
    have eb := fun k => e_value hr hm b 25 k (by omega) wb
    have h1 := oEq_ss (ev_wd hr hm a wa).ok (ev_wd hr hm b wb).ok rfl
    refine fn_eq ?_
    walk_at "go body__law_is_so Cn.d q_not_not q_not_same q_not_ahead q_not_in q_same_not q_same_same q_same_ahead q_same_in q_ahead_not q_ahead_same q_ahead_ahead q_ahead_in q_in_not q_in_same q_in_ahead q_in_in ea eb h1 oIn_s"
    rfl
  | no c ih =>
    rintro n k hn h25 wc
    rw [Cn.dep] at hn h25
    obtain ⟨n, rfl⟩ : ∃ k, n = k + 1 := ⟨n - 1, by omega⟩
    have ec := fun k => ih n k (by omega) (by omega) wc
    refine fn_eq ?_
    walk_at "go body__law_is_so Cn.d q_not_not q_not_same q_not_ahead q_not_in q_same_not q_same_same q_same_ahead q_same_in q_ahead_not q_ahead_same q_ahead_ahead q_ahead_in q_in_not q_in_same q_in_ahead q_in_in ec"
    rfl
/-! ## statements -/
inductive St where
  | say (e : Ex) | lt (n : Str) (e : Ex) | cond (c : Cn) (a b : List St) | each (n : Str) (b : List St)
mutual
def St.d : St → D
  | .say e => .tup [.str "say", e.d]
  | .lt n e => .tup [.str "let", .str n, e.d]
  | .cond c a b => .tup [.str "if", c.d, .tup (dL a), .tup (dL b)]
  | .each n b => .tup [.str "each", .str n, .tup (dL b)]
def dL : List St → List D
  | [] => []
  | s :: r => s.d :: dL r
end
theorem dL_map : ∀ b : List St, dL b = b.map St.d
  | [] => rfl
  | s :: r => by rw [dL, dL_map r]; rfl
abbrev boD (b : List St) : D := .tup (b.map St.d)
mutual
def St.dep : St → Nat
  | .say e => e.dep + 1
  | .lt _ e => e.dep + 1
  | .cond c a b => max c.dep (max (depL a) (depL b)) + 1
  | .each _ b => depL b + 1
def depL : List St → Nat
  | [] => 0
  | s :: r => max s.dep (depL r)
end
theorem depL_mem : ∀ {b : List St} {s : St}, s ∈ b → s.dep ≤ depL b
  | x :: b, s, h => by
    rw [depL]
    rcases List.mem_cons.mp h with rfl | h
    · omega
    · have := depL_mem h; omega
def Me.put (n v : Str) (m : Me) : Me := if hasK (.inr n) m.ks = true then m.map (fun p => if p.1 = n then (p.1, v) else p) else m ++ [(n, v)]
theorem put_ks {n v : Str} (m : Me) : putKs (.inr n) m.ks = (m.put n v).ks := by
  unfold putKs Me.put
  by_cases h : hasK (.inr n) m.ks = true
  · rw [if_pos h, if_pos h]
    unfold Me.ks
    rw [List.map_map]
    apply List.map_congr_left
    intro p _
    by_cases e : p.1 = n <;> simp [e]
  · rw [if_neg h, if_neg h]
    unfold Me.ks
    rw [List.map_append]; rfl
theorem map_vs {n v : Str} : ∀ m : Me, mapDs (.inr n) (.str v) m.ks m.vs = (m.map fun p => if p.1 = n then (p.1, v) else p).map fun p => D.str p.2
  | [] => rfl
  | p :: r => by
    show mapDs (.inr n) (.str v) (.inr p.1 :: Me.ks r) (.str p.2 :: Me.vs r) = _
    unfold mapDs
    rw [map_vs r, List.map_cons, List.map_cons]
    by_cases e : p.1 = n
    · simp [e]
    · have : ¬ (Sum.inr p.1 : Key) = .inr n := fun z => e (Sum.inr.inj z)
      rw [if_neg this, if_neg e]
theorem put_vs {n v : Str} (m : Me) : putDs (.inr n) (.str v) m.ks m.vs = (m.put n v).vs := by
  unfold putDs Me.put
  by_cases h : hasK (.inr n) m.ks = true
  · rw [if_pos h, if_pos h, map_vs]; rfl
  · rw [if_neg h, if_neg h]
    unfold Me.vs
    rw [List.map_append]; rfl
def eachR (f : Me → Option Str × Me) (n : Str) : List Str → Me → Option Str × Me
  | [], m => (none, m)
  | w :: ws, m => match f (m.put n w) with
    | (none, m') => eachR f n ws m'
    | (some v, m') => (some v, m')
mutual
def St.run (row : List Str) : St → Me → Option Str × Me
  | .say e => fun m => (some (e.ev row m), m)
  | .lt n e => fun m => (none, m.put n (e.ev row m))
  | .cond c a b => fun m => if c.ev row m = true then runL row a m else runL row b m
  | .each n b => fun m => eachR (runL row b) n row m
def runL (row : List Str) : List St → Me → Option Str × Me
  | [] => fun m => (none, m)
  | s :: r => fun m => match s.run row m with
    | (none, m') => runL row r m'
    | (some v, m') => (some v, m')
end
mutual
def St.Good (U : List Str) : St → Prop
  | .say e => e.Wds
  | .lt n e => n ∈ U ∧ e.Wds
  | .cond c a b => c.Wds ∧ GoodL U a ∧ GoodL U b
  | .each n b => n ∈ U ∧ GoodL U b
def GoodL (U : List Str) : List St → Prop
  | [] => True
  | s :: r => s.Good U ∧ GoodL U r
end
theorem good_mem {U : List Str} : ∀ {b : List St} {s : St}, GoodL U b → s ∈ b → s.Good U
  | x :: b, s, hg, h => by
    rw [GoodL] at hg
    rcases List.mem_cons.mp h with rfl | h
    · exact hg.1
    · exact good_mem hg.2 h
/-- memory whose names come from U -/
structure MeG (U : List Str) (m : Me) : Prop where
  ok : MeOk m
  nd : (m.map (·.1)).Nodup
  inU : ∀ p, p ∈ m → p.1 ∈ U
theorem pigeon {α : Type} [DecidableEq α] : ∀ {l U : List α}, l.Nodup → (∀ x, x ∈ l → x ∈ U) → l.length ≤ U.length
  | [], _, _, _ => Nat.zero_le _
  | x :: l, U, hn, h => by
    have hx := h x (by simp)
    have hn' := List.nodup_cons.mp hn
    have := pigeon (l := l) (U := U.erase x) hn'.2 fun y hy => (List.mem_erase_of_ne (fun e => hn'.1 (by rw [← e]; exact hy))).mpr (h y (by simp [hy]))
    rw [List.length_erase_of_mem hx] at this
    have := List.length_pos_of_mem hx
    rw [List.length_cons]; omega
theorem MeG.len {U : List Str} {m : Me} (h : MeG U m) (hU : U.length ≤ 100000) : m.ks.length < sizeLine := by
  have := pigeon h.nd (U := U) fun x hx => by
    obtain ⟨p, hp, rfl⟩ := List.mem_map.mp hx
    exact h.inU p hp
  rw [List.length_map] at this
  unfold Me.ks
  rw [List.length_map]
  exact Nat.lt_of_le_of_lt (Nat.le_trans this hU) (Nat.lt_of_lt_of_le (by omega : 100000 < 1000000) (sl16 (Nat.le_refl _)))
theorem hasK_iff {n : Str} {m : Me} : hasK (.inr n) m.ks = true ↔ ∃ p, p ∈ m ∧ p.1 = n := by
  unfold hasK Me.ks
  rw [List.any_map, List.any_eq_true]
  constructor
  · rintro ⟨p, hp, h⟩; exact ⟨p, hp, Sum.inr.inj (of_decide_eq_true h)⟩
  · rintro ⟨p, hp, rfl⟩; exact ⟨p, hp, decide_eq_true rfl⟩
theorem MeG.put {U : List Str} {m : Me} {n v : Str} (h : MeG U m) (hn : n ∈ U) (hv : Wd v) : MeG U (m.put n v) := by
  unfold Me.put
  by_cases hk : hasK (.inr n) m.ks = true
  · rw [if_pos hk]
    refine ⟨fun p hp => ?_, ?_, fun p hp => ?_⟩
    · obtain ⟨q, hq, rfl⟩ := List.mem_map.mp hp
      by_cases e : q.1 = n
      · rw [if_pos e]; exact hv
      · rw [if_neg e]; exact h.ok q hq
    · rw [List.map_map]
      have : ((fun p : Str × Str => p.1) ∘ fun p => if p.1 = n then (p.1, v) else p) = fun p => p.1 := by
        funext p
        show (if p.1 = n then (p.1, v) else p).1 = p.1
        by_cases e : p.1 = n
        · rw [if_pos e]
        · rw [if_neg e]
      rw [this]; exact h.nd
    · obtain ⟨q, hq, rfl⟩ := List.mem_map.mp hp
      by_cases e : q.1 = n
      · rw [if_pos e]; exact h.inU q hq
      · rw [if_neg e]; exact h.inU q hq
  · rw [if_neg hk]
    refine ⟨fun p hp => ?_, ?_, fun p hp => ?_⟩
    · rcases List.mem_append.mp hp with hp | hp
      · exact h.ok p hp
      · cases List.mem_singleton.mp hp; exact hv
    · rw [List.map_append]
      refine List.nodup_append.mpr ⟨h.nd, by simp, ?_⟩
      rintro a ha b hb rfl
      have hb : a = n := by simpa using hb
      subst hb
      obtain ⟨p, hp, e⟩ := List.mem_map.mp ha
      exact hk (hasK_iff.mpr ⟨p, hp, e⟩)
    · rcases List.mem_append.mp hp with hp | hp
      · exact h.inU p hp
      · cases List.mem_singleton.mp hp; exact hn
theorem meG_nil {U : List Str} : MeG U [] := ⟨(fun _ h => nomatch h), List.nodup_nil, (fun _ h => nomatch h)⟩
theorem each_g {U : List Str} {f : Me → Option Str × Me} {n : Str} (hn : n ∈ U) (hf : ∀ m, MeG U m → MeG U (f m).2 ∧ ∀ v, (f m).1 = some v → Wd v) : ∀ {ws : List Str} {m : Me}, (∀ w, w ∈ ws → Wd w) → MeG U m → MeG U (eachR f n ws m).2 ∧ ∀ v, (eachR f n ws m).1 = some v → Wd v
  | [], m, _, h => ⟨h, fun v e => nomatch e⟩
  | w :: ws, m, hw, h => by
    have h1 := hf (m.put n w) (h.put hn (hw w (by simp)))
    rw [eachR]
    cases e : f (m.put n w) with
    | mk o m' =>
      rw [e] at h1
      cases o with
      | none => exact each_g hn hf (fun x hx => hw x (by simp [hx])) h1.1
      | some v => exact h1
mutual
theorem run_g {U : List Str} {row : List Str} (hr : RowOk row) : ∀ (s : St) (m : Me), s.Good U → MeG U m → MeG U (s.run row m).2 ∧ ∀ v, (s.run row m).1 = some v → Wd v
  | .say e, m, hg, h => by
    rw [St.Good] at hg; rw [St.run]
    exact And.intro h (fun v hv => by cases hv; exact ev_wd hr h.ok e hg)
  | .lt n e, m, hg, h => by
    rw [St.Good] at hg; rw [St.run]
    exact And.intro (h.put hg.1 (ev_wd hr h.ok e hg.2)) (fun v hv => nomatch hv)
  | .cond c a b, m, hg, h => by
    rw [St.Good] at hg; rw [St.run]
    by_cases hc : c.ev row m = true
    · simp only [if_pos hc]; exact runL_g hr a m hg.2.1 h
    · simp only [if_neg hc]; exact runL_g hr b m hg.2.2 h
  | .each n b, m, hg, h => by
    rw [St.Good] at hg; rw [St.run]
    exact each_g hg.1 (fun m hm => runL_g hr b m hg.2 hm) hr.2 h
theorem runL_g {U : List Str} {row : List Str} (hr : RowOk row) : ∀ (b : List St) (m : Me), GoodL U b → MeG U m → MeG U (runL row b m).2 ∧ ∀ v, (runL row b m).1 = some v → Wd v
  | [], m, _, h => by rw [runL]; exact And.intro h (fun v hv => nomatch hv)
  | s :: r, m, hg, h => by
    rw [GoodL] at hg; rw [runL]
    have h1 := run_g hr s m hg.1 h
    simp only
    cases e : s.run row m with
    | mk o m' =>
      rw [e] at h1
      cases o with
      | none => exact runL_g hr r m' hg.2 h1.1
      | some v => exact h1
end

def optD : Option Str → D
  | some s => .str s
  | none => .non
theorem optD_s {v : Str} : optD (some v) = .str v := rfl
theorem optD_n : optD none = .non := rfl
abbrev SaidOk (U row : List Str) (n : Nat) : Prop := ∀ (b : List St) (m : Me) (k : Nat), 2 * depL b + 1 ≤ n → depL b ≤ 24 → GoodL U b → MeG U m →
  sem_said n [.fz (boD b), .fz (rowD row), .bor k (meD m)] = .val (optD (runL row b m).1) [.no, .no, .bor k (meD (runL row b m).2)]
abbrev EachOk (U row : List Str) (n : Nat) : Prop := ∀ (nm : Str) (b : List St) (m : Me) (k : Nat), 2 * depL b + 2 ≤ n → depL b ≤ 24 → nm ∈ U → GoodL U b → MeG U m →
  sem_said_each n [.fz (.tup [.str "each", .str nm, boD b]), .fz (rowD row), .bor k (meD m)] = .val (optD (eachR (runL row b) nm row m).1) [.no, .no, .bor k (meD (eachR (runL row b) nm row m).2)]
theorem each_step {U row : List Str} (hr : RowOk row) (hU : U.length ≤ 100000) {n : Nat} (ih : SaidOk U row n) : EachOk U row (n + 1) := by
  intro nm b m k hn hd hnm hg hm
  have lr := row_len hr
  cases hR : eachR (runL row b) nm row m with
  | mk o0 m0 =>
  rw [sem_said_each_s]
  refine fn_eq ?_
  walk_at "go body_said_each"
  refine for_maps (fun ws E => ∃ m' x3 x4, MeG U m' ∧ (∀ w, w ∈ ws → Wd w) ∧ eachR (runL row b) nm ws m' = (o0, m0) ∧ E = [.fz (.tup [.str "each", .str nm, boD b]), .fz (rowD row), .bor k (meD m'), x3, x4]) ⟨m, _, _, hm, hr.2, hR, rfl⟩ ?_ ?_
  · rintro w r E ⟨m', x3, x4, hm', hw, he, rfl⟩
    have hl := hm'.len hU
    have hp := hm'.put hnm (hw w (by simp))
    have e := fun k => ih b (m'.put nm w) k (by omega) hd hg hp
    have hg2 := runL_g hr b (m'.put nm w) hg hp
    have k1 := put_ks (n := nm) (v := w) m'
    have k2 := put_vs (n := nm) (v := w) m'
    rw [eachR] at he
    cases ho : runL row b (m'.put nm w) with
    | mk o m2 =>
      rw [ho] at he hg2
      simp only [ho] at e
      cases o with
      | none =>
        have e := fun k => (e k).trans (show _ = FR.val .non [.no, .no, .bor k (meD m2)] from rfl)
        walk_at "go k1 k2 e"
        exact ⟨m2, _, _, hg2.1, fun x hx => hw x (by simp [hx]), he, rfl⟩
      | some v =>
        have e := fun k => (e k).trans (show _ = FR.val (.str v) [.no, .no, .bor k (meD m2)] from rfl)
        cases he
        walk_at "go k1 k2 e optD_s optD_n"
        all_goals exact hl
  · rintro E ⟨m', x3, x4, hm', hw, he, rfl⟩
    cases he
    walk_at "go optD_s optD_n"
theorem said_step {U row : List Str} (hr : RowOk row) (hU : U.length ≤ 100000) {n : Nat} (ih : SaidOk U row n) (ih2 : EachOk U row n) : SaidOk U row (n + 1) := by
  intro b m k hn hd hg hm
  cases hR : runL row b m with
  | mk o0 m0 =>
  rw [sem_said_s]
  refine fn_eq ?_
  walk_at "go body_said"
  refine for_maps (fun r E => ∃ m' x3 x4, MeG U m' ∧ (∀ s, s ∈ r → s ∈ b) ∧ runL row r m' = (o0, m0) ∧ E = [.fz (boD b), .fz (rowD row), .bor k (meD m'), x3, x4]) ⟨m, _, _, hm, fun _ h => h, hR, rfl⟩ ?_ ?_
  · rintro s r E ⟨m', x3, x4, hm', hs, he, rfl⟩
    have hl := hm'.len hU
    have hsb := hs s (by simp)
    have gs := good_mem hg hsb
    have ds := depL_mem hsb
    have g2 := run_g hr s m' gs hm'
    have hs' : ∀ x, x ∈ r → x ∈ b := fun x hx => hs x (by simp [hx])
    walk_at "tgt"
    rw [runL] at he
    cases s with
    | say e =>
      rw [St.Good] at gs; rw [St.dep] at ds
      have ee := fun k => e_told hr hm'.ok e 25 k (by omega) gs
      rw [St.run] at he
      cases he
      walk_at "go St.d q_say_say q_say_let q_say_if q_say_each q_let_say q_let_let q_let_if q_let_each q_if_say q_if_let q_if_if q_if_each q_each_say q_each_let q_each_if q_each_each ee optD_s"
    | lt nm e =>
      rw [St.Good] at gs; rw [St.dep] at ds
      have ee := fun k => e_told hr hm'.ok e 25 k (by omega) gs.2
      have k1 := put_ks (n := nm) (v := e.ev row m') m'
      have k2 := put_vs (n := nm) (v := e.ev row m') m'
      walk_at "go St.d q_say_say q_say_let q_say_if q_say_each q_let_say q_let_let q_let_if q_let_each q_if_say q_if_let q_if_if q_if_each q_each_say q_each_let q_each_if q_each_each ee k1 k2"
      rw [St.run] at he g2
      exact ⟨_, _, _, g2.1, hs', he, rfl⟩
    | cond c x y =>
      rw [St.Good] at gs; rw [St.dep] at ds
      have ec := fun k => e_is_so hr hm'.ok c 25 k (by omega) (by omega) gs.1
      rw [St.run] at he g2
      have dx := dL_map x
      have dy := dL_map y
      cases hc : c.ev row m' with
      | true =>
        simp only [hc, if_true] at he g2 ec
        have e := fun k => ih x m' k (by omega) (by omega) gs.2.1 hm'
        cases ho : runL row x m' with
        | mk o m2 =>
          rw [ho] at he g2
          simp only [ho] at e
          cases o with
          | none =>
            have e := fun k => (e k).trans (show _ = FR.val .non [.no, .no, .bor k (meD m2)] from rfl)
            walk_at "go St.d dx dy q_say_say q_say_let q_say_if q_say_each q_let_say q_let_let q_let_if q_let_each q_if_say q_if_let q_if_if q_if_each q_each_say q_each_let q_each_if q_each_each ec e"
            exact ⟨m2, _, _, g2.1, hs', he, rfl⟩
          | some v =>
            have e := fun k => (e k).trans (show _ = FR.val (.str v) [.no, .no, .bor k (meD m2)] from rfl)
            cases he
            walk_at "go St.d dx dy q_say_say q_say_let q_say_if q_say_each q_let_say q_let_let q_let_if q_let_each q_if_say q_if_let q_if_if q_if_each q_each_say q_each_let q_each_if q_each_each ec e optD_s optD_n"
      | false =>
        simp only [hc, if_false, Bool.false_eq_true] at he g2 ec
        have e := fun k => ih y m' k (by omega) (by omega) gs.2.2 hm'
        cases ho : runL row y m' with
        | mk o m2 =>
          rw [ho] at he g2
          simp only [ho] at e
          cases o with
          | none =>
            have e := fun k => (e k).trans (show _ = FR.val .non [.no, .no, .bor k (meD m2)] from rfl)
            walk_at "go St.d dx dy q_say_say q_say_let q_say_if q_say_each q_let_say q_let_let q_let_if q_let_each q_if_say q_if_let q_if_if q_if_each q_each_say q_each_let q_each_if q_each_each ec e"
            exact ⟨m2, _, _, g2.1, hs', he, rfl⟩
          | some v =>
            have e := fun k => (e k).trans (show _ = FR.val (.str v) [.no, .no, .bor k (meD m2)] from rfl)
            cases he
            walk_at "go St.d dx dy q_say_say q_say_let q_say_if q_say_each q_let_say q_let_let q_let_if q_let_each q_if_say q_if_let q_if_if q_if_each q_each_say q_each_let q_each_if q_each_each ec e optD_s optD_n"
    | each nm x =>
      rw [St.Good] at gs; rw [St.dep] at ds
      rw [St.run] at he g2
      have dx := dL_map x
      have e := fun k => ih2 nm x m' k (by omega) (by omega) gs.1 gs.2 hm'
      cases ho : eachR (runL row x) nm row m' with
      | mk o m2 =>
        simp only at he g2
        rw [ho] at he g2
        simp only [ho] at e
        cases o with
        | none =>
          have e := fun k => (e k).trans (show _ = FR.val .non [.no, .no, .bor k (meD m2)] from rfl)
          walk_at "go St.d dx q_say_say q_say_let q_say_if q_say_each q_let_say q_let_let q_let_if q_let_each q_if_say q_if_let q_if_if q_if_each q_each_say q_each_let q_each_if q_each_each e"
          exact ⟨m2, _, _, g2.1, hs', he, rfl⟩
        | some v =>
          have e := fun k => (e k).trans (show _ = FR.val (.str v) [.no, .no, .bor k (meD m2)] from rfl)
          cases he
          walk_at "go St.d dx q_say_say q_say_let q_say_if q_say_each q_let_say q_let_let q_let_if q_let_each q_if_say q_if_let q_if_if q_if_each q_each_say q_each_let q_each_if q_each_each e optD_s optD_n"
  · rintro E ⟨m', x3, x4, hm', hs, he, rfl⟩
    cases he
    walk_at "go optD_s optD_n"
theorem said_all {U row : List Str} (hr : RowOk row) (hU : U.length ≤ 100000) : ∀ n, SaidOk U row n ∧ EachOk U row n
  | 0 => ⟨fun b m k h => by omega, fun nm b m k h => by omega⟩
  | n + 1 => by
    obtain ⟨h1, h2⟩ := said_all hr hU n
    exact ⟨said_step hr hU h1 h2, each_step hr hU h1⟩

abbrev RunOk (U row : List Str) (n : Nat) : Prop := ∀ (b : List St) (m : Me) (k : Nat), depL b + 1 ≤ n → depL b ≤ 24 → GoodL U b → MeG U m →
  sem__law_run n [.fz (boD b), .fz (rowD row), .bor k (meD m)] = .val (optD (runL row b m).1) [.no, .no, .bor k (meD (runL row b m).2)]
theorem run_step {U row : List Str} (hr : RowOk row) (hU : U.length ≤ 100000) {n : Nat} (ih : RunOk U row n) : RunOk U row (n + 1) := by
  intro b m k hn hd hg hm
  have lr := row_len hr
  cases hR : runL row b m with
  | mk o0 m0 =>
  refine fn_eq ?_
  walk_at "go body__law_run"
  refine for_maps (fun r E => ∃ m' x3 x4 x5 x6, MeG U m' ∧ (∀ s, s ∈ r → s ∈ b) ∧ runL row r m' = (o0, m0) ∧ E = [.fz (boD b), .fz (rowD row), .bor k (meD m'), x3, x4, x5, x6]) ⟨m, _, _, _, _, hm, fun _ h => h, hR, rfl⟩ ?_ ?_
  · rintro s r E ⟨m', x3, x4, x5, x6, hm', hs, he, rfl⟩
    have hl := hm'.len hU
    have hsb := hs s (by simp)
    have gs := good_mem hg hsb
    have ds := depL_mem hsb
    have g2 := run_g hr s m' gs hm'
    have hs' : ∀ x, x ∈ r → x ∈ b := fun x hx => hs x (by simp [hx])
    walk_at "tgt"
    rw [runL] at he
    cases s with
    | say e =>
      rw [St.Good] at gs; rw [St.dep] at ds
      have ee := fun k => e_value hr hm'.ok e 25 k (by omega) gs
      rw [St.run] at he
      cases he
      walk_at "go St.d q_say_say q_say_let q_say_if q_say_each q_let_say q_let_let q_let_if q_let_each q_if_say q_if_let q_if_if q_if_each q_each_say q_each_let q_each_if q_each_each ee optD_s"
    | lt nm e =>
      rw [St.Good] at gs; rw [St.dep] at ds
      have ee := fun k => e_value hr hm'.ok e 25 k (by omega) gs.2
      have k1 := put_ks (n := nm) (v := e.ev row m') m'
      have k2 := put_vs (n := nm) (v := e.ev row m') m'
      walk_at "go St.d q_say_say q_say_let q_say_if q_say_each q_let_say q_let_let q_let_if q_let_each q_if_say q_if_let q_if_if q_if_each q_each_say q_each_let q_each_if q_each_each ee k1 k2"
      rw [St.run] at he g2
      exact ⟨_, _, _, _, _, g2.1, hs', he, rfl⟩
    | cond c x y =>
      rw [St.Good] at gs; rw [St.dep] at ds
      have ec := fun k => e_law_is_so hr hm'.ok c 25 k (by omega) (by omega) gs.1
      rw [St.run] at he g2
      have dx := dL_map x
      have dy := dL_map y
      cases hc : c.ev row m' with
      | true =>
        simp only [hc, if_true] at he g2 ec
        have e := fun k => ih x m' k (by omega) (by omega) gs.2.1 hm'
        cases ho : runL row x m' with
        | mk o m2 =>
          rw [ho] at he g2
          simp only [ho] at e
          cases o with
          | none =>
            have e := fun k => (e k).trans (show _ = FR.val .non [.no, .no, .bor k (meD m2)] from rfl)
            walk_at "go St.d dx dy q_say_say q_say_let q_say_if q_say_each q_let_say q_let_let q_let_if q_let_each q_if_say q_if_let q_if_if q_if_each q_each_say q_each_let q_each_if q_each_each ec e"
            exact ⟨m2, _, _, _, _, g2.1, hs', he, rfl⟩
          | some v =>
            have e := fun k => (e k).trans (show _ = FR.val (.str v) [.no, .no, .bor k (meD m2)] from rfl)
            cases he
            walk_at "go St.d dx dy q_say_say q_say_let q_say_if q_say_each q_let_say q_let_let q_let_if q_let_each q_if_say q_if_let q_if_if q_if_each q_each_say q_each_let q_each_if q_each_each ec e optD_s"
      | false =>
        simp only [hc, if_false, Bool.false_eq_true] at he g2 ec
        have e := fun k => ih y m' k (by omega) (by omega) gs.2.2 hm'
        cases ho : runL row y m' with
        | mk o m2 =>
          rw [ho] at he g2
          simp only [ho] at e
          cases o with
          | none =>
            have e := fun k => (e k).trans (show _ = FR.val .non [.no, .no, .bor k (meD m2)] from rfl)
            walk_at "go St.d dx dy q_say_say q_say_let q_say_if q_say_each q_let_say q_let_let q_let_if q_let_each q_if_say q_if_let q_if_if q_if_each q_each_say q_each_let q_each_if q_each_each ec e"
            exact ⟨m2, _, _, _, _, g2.1, hs', he, rfl⟩
          | some v =>
            have e := fun k => (e k).trans (show _ = FR.val (.str v) [.no, .no, .bor k (meD m2)] from rfl)
            cases he
            walk_at "go St.d dx dy q_say_say q_say_let q_say_if q_say_each q_let_say q_let_let q_let_if q_let_each q_if_say q_if_let q_if_if q_if_each q_each_say q_each_let q_each_if q_each_each ec e optD_s"
    | each nm x =>
      rw [St.Good] at gs; rw [St.dep] at ds
      rw [St.run] at he g2
      have dx := dL_map x
      cases hE : eachR (runL row x) nm row m' with
      | mk o2 m2 =>
      simp only at he g2
      rw [hE] at he g2
      simp only at he g2
      walk_at "go St.d dx q_say_say q_say_let q_say_if q_say_each q_let_say q_let_let q_let_if q_let_each q_if_say q_if_let q_if_if q_if_each q_each_say q_each_let q_each_if q_each_each"
      refine for_maps (fun ws E => ∃ m' x4 x5 x6, MeG U m' ∧ (x4 = .fz .non) ∧ (∀ w, w ∈ ws → Wd w) ∧ eachR (runL row x) nm ws m' = (o2, m2) ∧ E = [.fz (boD b), .fz (rowD row), .bor k (meD m'), .fz (.tup [.str "each", .str nm, boD x]), x4, x5, x6]) ⟨m', _, _, _, hm', rfl, hr.2, hE, rfl⟩ ?_ ?_
      · rintro w r2 E ⟨m3, y4, y5, y6, hm3, rfl, hw, h3, rfl⟩
        have hl3 := hm3.len hU
        have hp := hm3.put gs.1 (hw w (by simp))
        have e := fun k => ih x (m3.put nm w) k (by omega) (by omega) gs.2 hp
        have hg2 := runL_g hr x (m3.put nm w) gs.2 hp
        have k1 := put_ks (n := nm) (v := w) m3
        have k2 := put_vs (n := nm) (v := w) m3
        rw [eachR] at h3
        cases ho : runL row x (m3.put nm w) with
        | mk o m4 =>
          rw [ho] at h3 hg2
          simp only [ho] at e
          cases o with
          | none =>
            have e := fun k => (e k).trans (show _ = FR.val .non [.no, .no, .bor k (meD m4)] from rfl)
            walk_at "go k1 k2 e"
            exact ⟨m4, _, _, _, hg2.1, rfl, fun x hx => hw x (by simp [hx]), h3, rfl⟩
          | some v =>
            have e := fun k => (e k).trans (show _ = FR.val (.str v) [.no, .no, .bor k (meD m4)] from rfl)
            cases h3
            cases he
            walk_at "go k1 k2 e optD_s"
            all_goals exact hl3
      · rintro E ⟨m3, y4, y5, y6, hm3, rfl, hw, h3, rfl⟩
        rw [eachR] at h3
        cases h3
        walk_at "go"
        exact ⟨_, _, _, _, _, g2.1, hs', he, rfl⟩
  · rintro E ⟨m', x3, x4, x5, x6, hm', hs, he, rfl⟩
    rw [runL] at he
    cases he
    walk_at "go optD_s optD_n"
theorem run_all {U row : List Str} (hr : RowOk row) (hU : U.length ≤ 100000) : ∀ n, RunOk U row n
  | 0 => fun b m k h => by omega
  | n + 1 => run_step hr hU (run_all hr hU n)

/-! ## rows, words, houses -/
theorem lo_ok {c : Nat} (h : 32 ≤ c) : decide ((⟨#[c]⟩ : Str).cps.toList < (Str.ofString " ").cps.toList) = false := by
  have e : (Str.ofString " ").cps.toList = [32] := by decide +kernel
  rw [e]
  refine decide_eq_false ?_
  show ¬ [c] < [32]
  rw [List.cons_lt_cons_iff]
  rintro (h1 | ⟨_, h2⟩)
  · omega
  · exact absurd h2 (List.not_lt_nil _)
theorem hi_ok {c : Nat} (h : c ≤ 126) : decide ((Str.ofString "~").cps.toList < (⟨#[c]⟩ : Str).cps.toList) = false := by
  have e : (Str.ofString "~").cps.toList = [126] := by decide +kernel
  rw [e]
  refine decide_eq_false ?_
  show ¬ [126] < [c]
  rw [List.cons_lt_cons_iff]
  rintro (h1 | ⟨_, h2⟩)
  · omega
  · exact absurd h2 (List.not_lt_nil _)
theorem e_are_signs {s : Str} (h : Wd s) : sem_are_signs [.fz (.str s)] = .val (.bl true) [.no] := by
  have hl : s.cps.toList.length ≤ sizeLine := h.line
  refine fn_eq ?_
  have hit : itAny (.str s) = some (s.cps.toList.map fun c => D.str ⟨#[c]⟩) := rfl
  walk_at "go body_are_signs rTL hit"
  refine lc_fun (k := fun c => D.str ⟨#[c]⟩) hl (fun _ => .bl true) (fun c hc => ?_) ?_
  · have h1 := lo_ok ((wd_iff.mp h).2 c hc).1
    have h2 := hi_ok ((wd_iff.mp h).2 c hc).2
    walk_at "go h1 h2"
  · have ha := oAll_map (f := fun _ : Nat => true) (xs := s.cps.toList)
    walk_at "go ha"
    simp
theorem e_is_word {s : Str} (h : Wd s) : sem_is_word [.fz (.str s)] = .val (.bl true) [.no] := by
  have e := e_are_signs h
  have hl := h.line
  have h40 : decide ((s.length : Int) ≤ 40) = true := decide_eq_true (by have := h.len; omega)
  refine fn_eq ?_
  walk_at "go body_is_word e h40 hl"
theorem e_is_row {row : List Str} (hr : RowOk row) : sem_is_row [.fz (rowD row)] = .val (.bl true) [.no] := by
  have lr := row_len hr
  have l2 : row.length ≤ sizeLine := sl16 (by have := hr.1; omega)
  have hlen := hr.1
  have es : sem_is_sized [.fz (rowD row), .fz (.int 0), .fz (.int 400)] = .val (.bl true) [.no, .no, .no] := by
    have h1 : decide ((0 : Int) ≤ (row.length : Int)) = true := decide_eq_true (by omega)
    have h2 : decide ((row.length : Int) ≤ 400) = true := decide_eq_true (by omega)
    refine fn_eq ?_
    walk_at "go body_is_sized rTL List.length_map l2 h1 h2"
  refine fn_eq ?_
  walk_at "go body_is_row es"
  refine lc_fun l2 (fun _ => .bl true) (fun w hw => ?_) ?_
  · have ew := e_is_word (hr.2 w hw)
    walk_at "go ew"
  · have ha := oAll_map (f := fun _ : Str => true) (xs := row)
    walk_at "go ha"
    simp
def outR (b : List St) (row : List Str) : Str := (runL row b []).1.getD ""
abbrev prD (b : List St) : D := .ins 0 ["statements"] [boD b]
structure PrOk (b : List St) : Prop where
  dep : depL b ≤ 20
  good : ∃ U : List Str, U.length ≤ 100000 ∧ GoodL U b
theorem out_wd {b : List St} {row : List Str} (hb : PrOk b) (hr : RowOk row) : Wd (outR b row) := by
  obtain ⟨U, hU, hg⟩ := hb.good
  have := (runL_g hr b [] hg meG_nil).2
  unfold outR
  cases h : (runL row b []).1 with
  | none => exact wd_nil
  | some v => exact this v h
theorem lk_st {a : D} : lookD "statements" ["statements"] [a] = some a := rfl
theorem lk_wd {a : D} : lookD "word" ["statements"] [a] = none := rfl
theorem e_word {b : List St} {row : List Str} (hb : PrOk b) (hr : RowOk row) : sem_Program_word [.fz (prD b), .fz (rowD row)] = .val (.str (outR b row)) [.no, .no] := by
  obtain ⟨U, hU, hg⟩ := hb.good
  have er := e_is_row hr
  have hd := hb.dep
  have es : sem_said 50 [.fz (boD b), .fz (rowD row), .bor 2 (.dk [] [])] = _ := (said_all hr hU 50).1 b [] 2 (by omega) (by omega) hg meG_nil
  unfold outR
  cases h : runL row b [] with
  | mk o m =>
    rw [h] at es
    cases o with
    | none =>
      have es := es.trans (show _ = FR.val .non [.no, .no, .bor 2 (meD m)] from rfl)
      refine fn_eq ?_
      walk_at "go body_Program_word er es lk_st"
      rfl
    | some v =>
      have es := es.trans (show _ = FR.val (.str v) [.no, .no, .bor 2 (meD m)] from rfl)
      refine fn_eq ?_
      walk_at "go body_Program_word er es lk_st"
      rfl
theorem e_due {b : List St} {row : List Str} (hb : PrOk b) (hr : RowOk row) : sem__law_due [.fz (boD b), .fz (rowD row)] = .val (.str (outR b row)) [.no, .no] := by
  obtain ⟨U, hU, hg⟩ := hb.good
  have hd := hb.dep
  have es : sem__law_run 45 [.fz (boD b), .fz (rowD row), .bor 2 (.dk [] [])] = _ := run_all hr hU 45 b [] 2 (by omega) (by omega) hg meG_nil
  unfold outR
  cases h : runL row b [] with
  | mk o m =>
    rw [h] at es
    cases o with
    | none =>
      have es := es.trans (show _ = FR.val .non [.no, .no, .bor 2 (meD m)] from rfl)
      refine fn_eq ?_
      walk_at "go body__law_due es"
      rfl
    | some v =>
      have es := es.trans (show _ = FR.val (.str v) [.no, .no, .bor 2 (meD m)] from rfl)
      refine fn_eq ?_
      walk_at "go body__law_due es"
      rfl
theorem e_asked {b : List St} {row : List Str} (hb : PrOk b) (hr : RowOk row) : sem_asked [.fz (prD b), .fz (rowD row)] = .val (.str (outR b row)) [.no, .no] := by
  have er := e_is_row hr
  have ew := e_word hb hr
  have ek := e_is_word (out_wd hb hr)
  refine fn_eq ?_
  walk_at "go body_asked er ew ek lk_wd"

/-! ## what a program is -/
def nmB (s : Str) : Bool := decide (1 ≤ s.length) && (decide (s.length ≤ 8) && ((s.cps.toList.all fun c => decide (97 ≤ c) && decide (c ≤ 122)) && (!(s == Str.ofString "many") && !(s == Str.ofString "last"))))
abbrev Nm (s : Str) : Prop := nmB s = true
theorem nm_iff {s : Str} : Nm s ↔ 1 ≤ s.length ∧ s.length ≤ 8 ∧ (∀ c, c ∈ s.cps.toList → 97 ≤ c ∧ c ≤ 122) ∧ (s == Str.ofString "many") = false ∧ (s == Str.ofString "last") = false := by
  unfold Nm nmB; simp only [Bool.and_eq_true, decide_eq_true_eq, List.all_eq_true, Bool.not_eq_true']
theorem Nm.wd {s : Str} (h : Nm s) : Wd s := by
  obtain ⟨_, h1, h2, _⟩ := nm_iff.mp h
  exact wd_iff.mpr ⟨by omega, fun c hc => by have := h2 c hc; omega⟩
theorem dIn_two {x a b : Str} (hx : PyData.strOk x = true) (hs : SeqAt.shaped (.list [.str a, .str b]) = true) : oIn (.str x) (.tup [.str a, .str b]) = some (.bl ((a == x) || (b == x))) := by
  have sx : SeqAt.shaped (PyData.str x) = true := by unfold SeqAt.shaped PyData.canLay0; rw [hx]; rfl
  have h : dIn (.str x) (.tup [.str a, .str b]) = some ((a == x) || (b == x)) := by
    show (if SeqAt.shaped (PyData.str x) = true ∧ SeqAt.shaped (.list [PyData.str a, PyData.str b]) = true then some ([PyData.str a, PyData.str b].any fun z => PyData.eqv z (PyData.str x)) else none) = _
    rw [if_pos ⟨sx, hs⟩]
    simp [PyData.eqv]
  unfold oIn
  rw [h]; rfl
theorem let_in {c : Nat} (h : 97 ≤ c ∧ c ≤ 122) : oIn (.str ⟨#[c]⟩) (.str "abcdefghijklmnopqrstuvwxyz") = some (.bl true) := by
  have key : ∀ k, k < 26 → (!(Builtin.Str.occurrences (Str.ofString "abcdefghijklmnopqrstuvwxyz") ⟨#[97 + k]⟩ 0 (Str.ofString "abcdefghijklmnopqrstuvwxyz").length 1).isEmpty) = true := by decide +kernel
  have := key (c - 97) (by omega)
  rw [show 97 + (c - 97) = c by omega] at this
  rw [oIn_s, this]
theorem e_is_name {s : Str} (h : Nm s) : sem_is_name [.fz (.str s)] = .val (.bl true) [.no] := by
  obtain ⟨h1, h8, hc, hm, hl⟩ := nm_iff.mp h
  have hz := h.wd.line
  have hz2 : s.cps.toList.length ≤ sizeLine := hz
  have a1 : decide ((1 : Int) ≤ (s.length : Int)) = true := decide_eq_true (by omega)
  have a2 : decide ((s.length : Int) ≤ 8) = true := decide_eq_true (by omega)
  have hi := dIn_two (x := s) (a := "many") (b := "last") h.wd.ok (by decide +kernel)
  have e1 : ((Str.ofString "many") == s) = false := beq_eq_false_iff_ne.mpr fun h => absurd h.symm (beq_eq_false_iff_ne.mp hm)
  have e2 : ((Str.ofString "last") == s) = false := beq_eq_false_iff_ne.mpr fun h => absurd h.symm (beq_eq_false_iff_ne.mp hl)
  have hi : oIn (.str s) (.tup [.str "many", .str "last"]) = some (.bl false) := by rw [hi]; rw [show (("many" : Str) == s) = false from e1, show (("last" : Str) == s) = false from e2]; rfl
  have hit : itAny (.str s) = some (s.cps.toList.map fun c => D.str ⟨#[c]⟩) := rfl
  refine fn_eq ?_
  walk_at "go body_is_name rTL a1 a2 hz hi hit"
  refine lc_fun (k := fun c => D.str ⟨#[c]⟩) hz2 (fun _ => .bl true) (fun c hm => ?_) ?_
  · have h1 := let_in (hc c hm)
    walk_at "go h1"
  · have ha := oAll_map (f := fun _ : Nat => true) (xs := s.cps.toList)
    walk_at "go ha"
    simp
theorem e_leaf_n {s : Str} (h : Nm s) : sem_is_leaf_right [.fz (.str "name"), .fz (.str s)] = .val (.bl true) [.no, .no] := by
  have e := e_is_name h
  refine fn_eq ?_
  walk_at "go body_is_leaf_right q_statement_statement q_statement_e q_statement_c q_statement_name q_statement_word q_statement_body q_e_statement q_e_e q_e_c q_e_name q_e_word q_e_body q_c_statement q_c_e q_c_c q_c_name q_c_word q_c_body q_name_statement q_name_e q_name_c q_name_name q_name_word q_name_body q_word_statement q_word_e q_word_c q_word_name q_word_word q_word_body q_body_statement q_body_e q_body_c q_body_name q_body_word q_body_body e"
theorem e_leaf_w {s : Str} (h : Wd s) : sem_is_leaf_right [.fz (.str "word"), .fz (.str s)] = .val (.bl true) [.no, .no] := by
  have e := e_is_word h
  refine fn_eq ?_
  walk_at "go body_is_leaf_right q_statement_statement q_statement_e q_statement_c q_statement_name q_statement_word q_statement_body q_e_statement q_e_e q_e_c q_e_name q_e_word q_e_body q_c_statement q_c_e q_c_c q_c_name q_c_word q_c_body q_name_statement q_name_e q_name_c q_name_name q_name_word q_name_body q_word_statement q_word_e q_word_c q_word_name q_word_word q_word_body q_body_statement q_body_e q_body_c q_body_name q_body_word q_body_body e"
theorem lk_S_say : lookT "say" tb_STATEMENTS = some (.tup [.str "e"]) := by kernel_rfl
theorem lk_S_let : lookT "let" tb_STATEMENTS = some (.tup [.str "name", .str "e"]) := by kernel_rfl
theorem lk_S_if : lookT "if" tb_STATEMENTS = some (.tup [.str "c", .str "body", .str "body"]) := by kernel_rfl
theorem lk_S_each : lookT "each" tb_STATEMENTS = some (.tup [.str "name", .str "body"]) := by kernel_rfl
theorem lk_E_text : lookT "text" tb_EXPRESSIONS = some (.tup [.str "word"]) := by kernel_rfl
theorem lk_E_name : lookT "name" tb_EXPRESSIONS = some (.tup [.str "name"]) := by kernel_rfl
theorem lk_E_join : lookT "join" tb_EXPRESSIONS = some (.tup [.str "e", .str "e"]) := by kernel_rfl
theorem lk_E_turn : lookT "turn" tb_EXPRESSIONS = some (.tup [.str "e"]) := by kernel_rfl
theorem lk_E_rest : lookT "rest" tb_EXPRESSIONS = some (.tup [.str "e"]) := by kernel_rfl
theorem lk_E_first : lookT "first" tb_EXPRESSIONS = some (.tup [.str "e"]) := by kernel_rfl
theorem lk_E_many : lookT "many" tb_EXPRESSIONS = some (.tup []) := by kernel_rfl
theorem lk_E_last : lookT "last" tb_EXPRESSIONS = some (.tup []) := by kernel_rfl
theorem lk_C_same : lookT "same" tb_CONDITIONS = some (.tup [.str "e", .str "e"]) := by kernel_rfl
theorem lk_C_ahead : lookT "ahead" tb_CONDITIONS = some (.tup [.str "e", .str "e"]) := by kernel_rfl
theorem lk_C_in : lookT "in" tb_CONDITIONS = some (.tup [.str "e", .str "e"]) := by kernel_rfl
theorem lk_C_not : lookT "not" tb_CONDITIONS = some (.tup [.str "c"]) := by kernel_rfl
abbrev pairD (p : Str × D) : D := .tup [.str p.1, p.2]
theorem zip2a {a : D} {p : D} : zipD [a] [p] = [.tup [a, p]] := rfl
theorem zip2b {a b p q : D} : zipD [a, b] [p, q] = [.tup [a, p], .tup [b, q]] := rfl
theorem zip2c {a b c p q r : D} : zipD [a, b, c] [p, q, r] = [.tup [a, p], .tup [b, q], .tup [c, r]] := rfl
theorem zip2n : zipD [] [] = [] := rfl
theorem lz0 : lzip [.tup [], .tup []] = some (.lst []) := rfl
theorem lz1 {a p : D} : lzip [.tup [a], .tup [p]] = some (.lst [.tup [a, p]]) := rfl
theorem lz2 {a b p q : D} : lzip [.tup [a, b], .tup [p, q]] = some (.lst [.tup [a, p], .tup [b, q]]) := rfl
theorem lz3 {a b c p q r : D} : lzip [.tup [a, b, c], .tup [p, q, r]] = some (.lst [.tup [a, p], .tup [b, q], .tup [c, r]]) := rfl
theorem sn {n : Nat} (h : n ≤ 10) : n ≤ sizeLine := sl16 (by omega)
theorem so_S_say : sem_sorts_of [.fz (.str "statement"), .fz (.str "say")] = .val (.tup [.str "e"]) [.no, .no] := by
  have h := lk_S_say
  refine fn_eq ?_
  walk_at "go body_sorts_of q_statement_statement q_statement_e q_statement_c q_statement_name q_statement_word q_statement_body q_e_statement q_e_e q_e_c q_e_name q_e_word q_e_body q_c_statement q_c_e q_c_c q_c_name q_c_word q_c_body q_name_statement q_name_e q_name_c q_name_name q_name_word q_name_body q_word_statement q_word_e q_word_c q_word_name q_word_word q_word_body q_body_statement q_body_e q_body_c q_body_name q_body_word q_body_body h Option.getD_some"
theorem pa_S_say {p : D} : sem_parts_of [.fz (.str "statement"), .fz (.tup [.str "say", p])] = .val (.lst [.tup [.str "e", p]]) [.no, .no] := by
  have e := so_S_say
  have l1 := sn (n := 2) (by omega)
  have l2 := sn (n := 1) (by omega)
  have c0 : (((2 : Nat) : Int) == 0) = false := by decide
  have c1 : (((2 : Nat) : Int) == ((1 : Nat) : Int) + 1) = true := by decide
  refine fn_eq ?_
  walk_at "go body_parts_of rTL e l1 l2 lz1 List.drop_succ_cons List.drop_zero"
  all_goals (first | done | rfl | simp)
theorem so_S_let : sem_sorts_of [.fz (.str "statement"), .fz (.str "let")] = .val (.tup [.str "name", .str "e"]) [.no, .no] := by
  have h := lk_S_let
  refine fn_eq ?_
  walk_at "go body_sorts_of q_statement_statement q_statement_e q_statement_c q_statement_name q_statement_word q_statement_body q_e_statement q_e_e q_e_c q_e_name q_e_word q_e_body q_c_statement q_c_e q_c_c q_c_name q_c_word q_c_body q_name_statement q_name_e q_name_c q_name_name q_name_word q_name_body q_word_statement q_word_e q_word_c q_word_name q_word_word q_word_body q_body_statement q_body_e q_body_c q_body_name q_body_word q_body_body h Option.getD_some"
theorem pa_S_let {p q : D} : sem_parts_of [.fz (.str "statement"), .fz (.tup [.str "let", p, q])] = .val (.lst [.tup [.str "name", p], .tup [.str "e", q]]) [.no, .no] := by
  have e := so_S_let
  have l1 := sn (n := 3) (by omega)
  have l2 := sn (n := 2) (by omega)
  have c0 : (((3 : Nat) : Int) == 0) = false := by decide
  have c1 : (((3 : Nat) : Int) == ((2 : Nat) : Int) + 1) = true := by decide
  refine fn_eq ?_
  walk_at "go body_parts_of rTL e l1 l2 lz2 List.drop_succ_cons List.drop_zero"
  all_goals (first | done | rfl | simp)
theorem so_S_if : sem_sorts_of [.fz (.str "statement"), .fz (.str "if")] = .val (.tup [.str "c", .str "body", .str "body"]) [.no, .no] := by
  have h := lk_S_if
  refine fn_eq ?_
  walk_at "go body_sorts_of q_statement_statement q_statement_e q_statement_c q_statement_name q_statement_word q_statement_body q_e_statement q_e_e q_e_c q_e_name q_e_word q_e_body q_c_statement q_c_e q_c_c q_c_name q_c_word q_c_body q_name_statement q_name_e q_name_c q_name_name q_name_word q_name_body q_word_statement q_word_e q_word_c q_word_name q_word_word q_word_body q_body_statement q_body_e q_body_c q_body_name q_body_word q_body_body h Option.getD_some"
theorem pa_S_if {p q r : D} : sem_parts_of [.fz (.str "statement"), .fz (.tup [.str "if", p, q, r])] = .val (.lst [.tup [.str "c", p], .tup [.str "body", q], .tup [.str "body", r]]) [.no, .no] := by
  have e := so_S_if
  have l1 := sn (n := 4) (by omega)
  have l2 := sn (n := 3) (by omega)
  have c0 : (((4 : Nat) : Int) == 0) = false := by decide
  have c1 : (((4 : Nat) : Int) == ((3 : Nat) : Int) + 1) = true := by decide
  refine fn_eq ?_
  walk_at "go body_parts_of rTL e l1 l2 lz3 List.drop_succ_cons List.drop_zero"
  all_goals (first | done | rfl | simp)
theorem so_S_each : sem_sorts_of [.fz (.str "statement"), .fz (.str "each")] = .val (.tup [.str "name", .str "body"]) [.no, .no] := by
  have h := lk_S_each
  refine fn_eq ?_
  walk_at "go body_sorts_of q_statement_statement q_statement_e q_statement_c q_statement_name q_statement_word q_statement_body q_e_statement q_e_e q_e_c q_e_name q_e_word q_e_body q_c_statement q_c_e q_c_c q_c_name q_c_word q_c_body q_name_statement q_name_e q_name_c q_name_name q_name_word q_name_body q_word_statement q_word_e q_word_c q_word_name q_word_word q_word_body q_body_statement q_body_e q_body_c q_body_name q_body_word q_body_body h Option.getD_some"
theorem pa_S_each {p q : D} : sem_parts_of [.fz (.str "statement"), .fz (.tup [.str "each", p, q])] = .val (.lst [.tup [.str "name", p], .tup [.str "body", q]]) [.no, .no] := by
  have e := so_S_each
  have l1 := sn (n := 3) (by omega)
  have l2 := sn (n := 2) (by omega)
  have c0 : (((3 : Nat) : Int) == 0) = false := by decide
  have c1 : (((3 : Nat) : Int) == ((2 : Nat) : Int) + 1) = true := by decide
  refine fn_eq ?_
  walk_at "go body_parts_of rTL e l1 l2 lz2 List.drop_succ_cons List.drop_zero"
  all_goals (first | done | rfl | simp)
theorem so_E_text : sem_sorts_of [.fz (.str "e"), .fz (.str "text")] = .val (.tup [.str "word"]) [.no, .no] := by
  have h := lk_E_text
  refine fn_eq ?_
  walk_at "go body_sorts_of q_statement_statement q_statement_e q_statement_c q_statement_name q_statement_word q_statement_body q_e_statement q_e_e q_e_c q_e_name q_e_word q_e_body q_c_statement q_c_e q_c_c q_c_name q_c_word q_c_body q_name_statement q_name_e q_name_c q_name_name q_name_word q_name_body q_word_statement q_word_e q_word_c q_word_name q_word_word q_word_body q_body_statement q_body_e q_body_c q_body_name q_body_word q_body_body h Option.getD_some"
theorem pa_E_text {p : D} : sem_parts_of [.fz (.str "e"), .fz (.tup [.str "text", p])] = .val (.lst [.tup [.str "word", p]]) [.no, .no] := by
  have e := so_E_text
  have l1 := sn (n := 2) (by omega)
  have l2 := sn (n := 1) (by omega)
  have c0 : (((2 : Nat) : Int) == 0) = false := by decide
  have c1 : (((2 : Nat) : Int) == ((1 : Nat) : Int) + 1) = true := by decide
  refine fn_eq ?_
  walk_at "go body_parts_of rTL e l1 l2 lz1 List.drop_succ_cons List.drop_zero"
  all_goals (first | done | rfl | simp)
theorem so_E_name : sem_sorts_of [.fz (.str "e"), .fz (.str "name")] = .val (.tup [.str "name"]) [.no, .no] := by
  have h := lk_E_name
  refine fn_eq ?_
  walk_at "go body_sorts_of q_statement_statement q_statement_e q_statement_c q_statement_name q_statement_word q_statement_body q_e_statement q_e_e q_e_c q_e_name q_e_word q_e_body q_c_statement q_c_e q_c_c q_c_name q_c_word q_c_body q_name_statement q_name_e q_name_c q_name_name q_name_word q_name_body q_word_statement q_word_e q_word_c q_word_name q_word_word q_word_body q_body_statement q_body_e q_body_c q_body_name q_body_word q_body_body h Option.getD_some"
theorem pa_E_name {p : D} : sem_parts_of [.fz (.str "e"), .fz (.tup [.str "name", p])] = .val (.lst [.tup [.str "name", p]]) [.no, .no] := by
  have e := so_E_name
  have l1 := sn (n := 2) (by omega)
  have l2 := sn (n := 1) (by omega)
  have c0 : (((2 : Nat) : Int) == 0) = false := by decide
  have c1 : (((2 : Nat) : Int) == ((1 : Nat) : Int) + 1) = true := by decide
  refine fn_eq ?_
  walk_at "go body_parts_of rTL e l1 l2 lz1 List.drop_succ_cons List.drop_zero"
  all_goals (first | done | rfl | simp)
theorem so_E_join : sem_sorts_of [.fz (.str "e"), .fz (.str "join")] = .val (.tup [.str "e", .str "e"]) [.no, .no] := by
  have h := lk_E_join
  refine fn_eq ?_
  walk_at "go body_sorts_of q_statement_statement q_statement_e q_statement_c q_statement_name q_statement_word q_statement_body q_e_statement q_e_e q_e_c q_e_name q_e_word q_e_body q_c_statement q_c_e q_c_c q_c_name q_c_word q_c_body q_name_statement q_name_e q_name_c q_name_name q_name_word q_name_body q_word_statement q_word_e q_word_c q_word_name q_word_word q_word_body q_body_statement q_body_e q_body_c q_body_name q_body_word q_body_body h Option.getD_some"
theorem pa_E_join {p q : D} : sem_parts_of [.fz (.str "e"), .fz (.tup [.str "join", p, q])] = .val (.lst [.tup [.str "e", p], .tup [.str "e", q]]) [.no, .no] := by
  have e := so_E_join
  have l1 := sn (n := 3) (by omega)
  have l2 := sn (n := 2) (by omega)
  have c0 : (((3 : Nat) : Int) == 0) = false := by decide
  have c1 : (((3 : Nat) : Int) == ((2 : Nat) : Int) + 1) = true := by decide
  refine fn_eq ?_
  walk_at "go body_parts_of rTL e l1 l2 lz2 List.drop_succ_cons List.drop_zero"
  all_goals (first | done | rfl | simp)
theorem so_E_turn : sem_sorts_of [.fz (.str "e"), .fz (.str "turn")] = .val (.tup [.str "e"]) [.no, .no] := by
  have h := lk_E_turn
  refine fn_eq ?_
  walk_at "go body_sorts_of q_statement_statement q_statement_e q_statement_c q_statement_name q_statement_word q_statement_body q_e_statement q_e_e q_e_c q_e_name q_e_word q_e_body q_c_statement q_c_e q_c_c q_c_name q_c_word q_c_body q_name_statement q_name_e q_name_c q_name_name q_name_word q_name_body q_word_statement q_word_e q_word_c q_word_name q_word_word q_word_body q_body_statement q_body_e q_body_c q_body_name q_body_word q_body_body h Option.getD_some"
theorem pa_E_turn {p : D} : sem_parts_of [.fz (.str "e"), .fz (.tup [.str "turn", p])] = .val (.lst [.tup [.str "e", p]]) [.no, .no] := by
  have e := so_E_turn
  have l1 := sn (n := 2) (by omega)
  have l2 := sn (n := 1) (by omega)
  have c0 : (((2 : Nat) : Int) == 0) = false := by decide
  have c1 : (((2 : Nat) : Int) == ((1 : Nat) : Int) + 1) = true := by decide
  refine fn_eq ?_
  walk_at "go body_parts_of rTL e l1 l2 lz1 List.drop_succ_cons List.drop_zero"
  all_goals (first | done | rfl | simp)
theorem so_E_rest : sem_sorts_of [.fz (.str "e"), .fz (.str "rest")] = .val (.tup [.str "e"]) [.no, .no] := by
  have h := lk_E_rest
  refine fn_eq ?_
  walk_at "go body_sorts_of q_statement_statement q_statement_e q_statement_c q_statement_name q_statement_word q_statement_body q_e_statement q_e_e q_e_c q_e_name q_e_word q_e_body q_c_statement q_c_e q_c_c q_c_name q_c_word q_c_body q_name_statement q_name_e q_name_c q_name_name q_name_word q_name_body q_word_statement q_word_e q_word_c q_word_name q_word_word q_word_body q_body_statement q_body_e q_body_c q_body_name q_body_word q_body_body h Option.getD_some"
theorem pa_E_rest {p : D} : sem_parts_of [.fz (.str "e"), .fz (.tup [.str "rest", p])] = .val (.lst [.tup [.str "e", p]]) [.no, .no] := by
  have e := so_E_rest
  have l1 := sn (n := 2) (by omega)
  have l2 := sn (n := 1) (by omega)
  have c0 : (((2 : Nat) : Int) == 0) = false := by decide
  have c1 : (((2 : Nat) : Int) == ((1 : Nat) : Int) + 1) = true := by decide
  refine fn_eq ?_
  walk_at "go body_parts_of rTL e l1 l2 lz1 List.drop_succ_cons List.drop_zero"
  all_goals (first | done | rfl | simp)
theorem so_E_first : sem_sorts_of [.fz (.str "e"), .fz (.str "first")] = .val (.tup [.str "e"]) [.no, .no] := by
  have h := lk_E_first
  refine fn_eq ?_
  walk_at "go body_sorts_of q_statement_statement q_statement_e q_statement_c q_statement_name q_statement_word q_statement_body q_e_statement q_e_e q_e_c q_e_name q_e_word q_e_body q_c_statement q_c_e q_c_c q_c_name q_c_word q_c_body q_name_statement q_name_e q_name_c q_name_name q_name_word q_name_body q_word_statement q_word_e q_word_c q_word_name q_word_word q_word_body q_body_statement q_body_e q_body_c q_body_name q_body_word q_body_body h Option.getD_some"
theorem pa_E_first {p : D} : sem_parts_of [.fz (.str "e"), .fz (.tup [.str "first", p])] = .val (.lst [.tup [.str "e", p]]) [.no, .no] := by
  have e := so_E_first
  have l1 := sn (n := 2) (by omega)
  have l2 := sn (n := 1) (by omega)
  have c0 : (((2 : Nat) : Int) == 0) = false := by decide
  have c1 : (((2 : Nat) : Int) == ((1 : Nat) : Int) + 1) = true := by decide
  refine fn_eq ?_
  walk_at "go body_parts_of rTL e l1 l2 lz1 List.drop_succ_cons List.drop_zero"
  all_goals (first | done | rfl | simp)
theorem so_E_many : sem_sorts_of [.fz (.str "e"), .fz (.str "many")] = .val (.tup []) [.no, .no] := by
  have h := lk_E_many
  refine fn_eq ?_
  walk_at "go body_sorts_of q_statement_statement q_statement_e q_statement_c q_statement_name q_statement_word q_statement_body q_e_statement q_e_e q_e_c q_e_name q_e_word q_e_body q_c_statement q_c_e q_c_c q_c_name q_c_word q_c_body q_name_statement q_name_e q_name_c q_name_name q_name_word q_name_body q_word_statement q_word_e q_word_c q_word_name q_word_word q_word_body q_body_statement q_body_e q_body_c q_body_name q_body_word q_body_body h Option.getD_some"
theorem pa_E_many : sem_parts_of [.fz (.str "e"), .fz (.tup [.str "many"])] = .val (.lst []) [.no, .no] := by
  have e := so_E_many
  have l1 := sn (n := 1) (by omega)
  have l2 := sn (n := 0) (by omega)
  have c0 : (((1 : Nat) : Int) == 0) = false := by decide
  have c1 : (((1 : Nat) : Int) == ((0 : Nat) : Int) + 1) = true := by decide
  refine fn_eq ?_
  walk_at "go body_parts_of rTL e l1 l2 lz0 List.drop_succ_cons List.drop_zero"
  all_goals (first | done | rfl | simp)
theorem so_E_last : sem_sorts_of [.fz (.str "e"), .fz (.str "last")] = .val (.tup []) [.no, .no] := by
  have h := lk_E_last
  refine fn_eq ?_
  walk_at "go body_sorts_of q_statement_statement q_statement_e q_statement_c q_statement_name q_statement_word q_statement_body q_e_statement q_e_e q_e_c q_e_name q_e_word q_e_body q_c_statement q_c_e q_c_c q_c_name q_c_word q_c_body q_name_statement q_name_e q_name_c q_name_name q_name_word q_name_body q_word_statement q_word_e q_word_c q_word_name q_word_word q_word_body q_body_statement q_body_e q_body_c q_body_name q_body_word q_body_body h Option.getD_some"
theorem pa_E_last : sem_parts_of [.fz (.str "e"), .fz (.tup [.str "last"])] = .val (.lst []) [.no, .no] := by
  have e := so_E_last
  have l1 := sn (n := 1) (by omega)
  have l2 := sn (n := 0) (by omega)
  have c0 : (((1 : Nat) : Int) == 0) = false := by decide
  have c1 : (((1 : Nat) : Int) == ((0 : Nat) : Int) + 1) = true := by decide
  refine fn_eq ?_
  walk_at "go body_parts_of rTL e l1 l2 lz0 List.drop_succ_cons List.drop_zero"
  all_goals (first | done | rfl | simp)
theorem so_C_same : sem_sorts_of [.fz (.str "c"), .fz (.str "same")] = .val (.tup [.str "e", .str "e"]) [.no, .no] := by
  have h := lk_C_same
  refine fn_eq ?_
  walk_at "go body_sorts_of q_statement_statement q_statement_e q_statement_c q_statement_name q_statement_word q_statement_body q_e_statement q_e_e q_e_c q_e_name q_e_word q_e_body q_c_statement q_c_e q_c_c q_c_name q_c_word q_c_body q_name_statement q_name_e q_name_c q_name_name q_name_word q_name_body q_word_statement q_word_e q_word_c q_word_name q_word_word q_word_body q_body_statement q_body_e q_body_c q_body_name q_body_word q_body_body h Option.getD_some"
theorem pa_C_same {p q : D} : sem_parts_of [.fz (.str "c"), .fz (.tup [.str "same", p, q])] = .val (.lst [.tup [.str "e", p], .tup [.str "e", q]]) [.no, .no] := by
  have e := so_C_same
  have l1 := sn (n := 3) (by omega)
  have l2 := sn (n := 2) (by omega)
  have c0 : (((3 : Nat) : Int) == 0) = false := by decide
  have c1 : (((3 : Nat) : Int) == ((2 : Nat) : Int) + 1) = true := by decide
  refine fn_eq ?_
  walk_at "go body_parts_of rTL e l1 l2 lz2 List.drop_succ_cons List.drop_zero"
  all_goals (first | done | rfl | simp)
theorem so_C_ahead : sem_sorts_of [.fz (.str "c"), .fz (.str "ahead")] = .val (.tup [.str "e", .str "e"]) [.no, .no] := by
  have h := lk_C_ahead
  refine fn_eq ?_
  walk_at "go body_sorts_of q_statement_statement q_statement_e q_statement_c q_statement_name q_statement_word q_statement_body q_e_statement q_e_e q_e_c q_e_name q_e_word q_e_body q_c_statement q_c_e q_c_c q_c_name q_c_word q_c_body q_name_statement q_name_e q_name_c q_name_name q_name_word q_name_body q_word_statement q_word_e q_word_c q_word_name q_word_word q_word_body q_body_statement q_body_e q_body_c q_body_name q_body_word q_body_body h Option.getD_some"
theorem pa_C_ahead {p q : D} : sem_parts_of [.fz (.str "c"), .fz (.tup [.str "ahead", p, q])] = .val (.lst [.tup [.str "e", p], .tup [.str "e", q]]) [.no, .no] := by
  have e := so_C_ahead
  have l1 := sn (n := 3) (by omega)
  have l2 := sn (n := 2) (by omega)
  have c0 : (((3 : Nat) : Int) == 0) = false := by decide
  have c1 : (((3 : Nat) : Int) == ((2 : Nat) : Int) + 1) = true := by decide
  refine fn_eq ?_
  walk_at "go body_parts_of rTL e l1 l2 lz2 List.drop_succ_cons List.drop_zero"
  all_goals (first | done | rfl | simp)
theorem so_C_in : sem_sorts_of [.fz (.str "c"), .fz (.str "in")] = .val (.tup [.str "e", .str "e"]) [.no, .no] := by
  have h := lk_C_in
  refine fn_eq ?_
  walk_at "go body_sorts_of q_statement_statement q_statement_e q_statement_c q_statement_name q_statement_word q_statement_body q_e_statement q_e_e q_e_c q_e_name q_e_word q_e_body q_c_statement q_c_e q_c_c q_c_name q_c_word q_c_body q_name_statement q_name_e q_name_c q_name_name q_name_word q_name_body q_word_statement q_word_e q_word_c q_word_name q_word_word q_word_body q_body_statement q_body_e q_body_c q_body_name q_body_word q_body_body h Option.getD_some"
theorem pa_C_in {p q : D} : sem_parts_of [.fz (.str "c"), .fz (.tup [.str "in", p, q])] = .val (.lst [.tup [.str "e", p], .tup [.str "e", q]]) [.no, .no] := by
  have e := so_C_in
  have l1 := sn (n := 3) (by omega)
  have l2 := sn (n := 2) (by omega)
  have c0 : (((3 : Nat) : Int) == 0) = false := by decide
  have c1 : (((3 : Nat) : Int) == ((2 : Nat) : Int) + 1) = true := by decide
  refine fn_eq ?_
  walk_at "go body_parts_of rTL e l1 l2 lz2 List.drop_succ_cons List.drop_zero"
  all_goals (first | done | rfl | simp)
theorem so_C_not : sem_sorts_of [.fz (.str "c"), .fz (.str "not")] = .val (.tup [.str "c"]) [.no, .no] := by
  have h := lk_C_not
  refine fn_eq ?_
  walk_at "go body_sorts_of q_statement_statement q_statement_e q_statement_c q_statement_name q_statement_word q_statement_body q_e_statement q_e_e q_e_c q_e_name q_e_word q_e_body q_c_statement q_c_e q_c_c q_c_name q_c_word q_c_body q_name_statement q_name_e q_name_c q_name_name q_name_word q_name_body q_word_statement q_word_e q_word_c q_word_name q_word_word q_word_body q_body_statement q_body_e q_body_c q_body_name q_body_word q_body_body h Option.getD_some"
theorem pa_C_not {p : D} : sem_parts_of [.fz (.str "c"), .fz (.tup [.str "not", p])] = .val (.lst [.tup [.str "c", p]]) [.no, .no] := by
  have e := so_C_not
  have l1 := sn (n := 2) (by omega)
  have l2 := sn (n := 1) (by omega)
  have c0 : (((2 : Nat) : Int) == 0) = false := by decide
  have c1 : (((2 : Nat) : Int) == ((1 : Nat) : Int) + 1) = true := by decide
  refine fn_eq ?_
  walk_at "go body_parts_of rTL e l1 l2 lz1 List.drop_succ_cons List.drop_zero"
  all_goals (first | done | rfl | simp)
theorem e_wpart {sort tag : Str} {rest : List D} {ps : List (Str × D)} {deep ea : Int} {b1 b2 : Bool} (hp : sem_parts_of [.fz (.str sort), .fz (.tup (.str tag :: rest))] = .val (.lst (ps.map pairD)) [.no, .no])
    (hs : oEq (.str sort) (.str "statement") = some (.bl b1)) (ht : oEq (.str tag) (.str "each") = some (.bl b2)) (hd : deep ≤ 20) {ia : Int} (hi : ia = ea + (if (b1 && b2) = true then 1 else 0)) (hi2 : ia ≤ 2) (hl : ps.length ≤ 10) :
    sem_within_part [.fz (.str sort), .fz (.tup (.str tag :: rest)), .fz (.int deep), .fz (.int ea)] = .val (.lst (ps.map fun p => .tup [.str p.1, p.2, .int (deep + 1), .int ia])) [.no, .no, .no, .no] := by
  have hz : ps.length ≤ sizeLine := sn hl
  have l4 : (4 : Nat) ≤ sizeLine := sn (by omega)
  have a1 : decide ((20 : Int) < deep) = false := decide_eq_false (by omega)
  have a2 : decide ((2 : Int) < ia) = false := decide_eq_false (by omega)
  refine fn_eq ?_
  cases b1 with
  | false =>
    have hi : ea + 0 = ia := by rw [hi]; rfl
    walk_at "go body_within_part hp hs a1 hi a2"
    refine lc_fun (k := pairD) hz (fun p => .tup [.str p.1, p.2, .int (deep + 1), .int ia]) (fun p _ => ?_) ?_
    · walk_at "go l4"
    · walk_at "go"
  | true =>
    cases b2 with
    | false =>
      have hi : ea + 0 = ia := by rw [hi]; rfl
      walk_at "go body_within_part hp hs ht a1 hi a2"
      refine lc_fun (k := pairD) hz (fun p => .tup [.str p.1, p.2, .int (deep + 1), .int ia]) (fun p _ => ?_) ?_
      · walk_at "go l4"
      · walk_at "go"
    | true =>
      have hi : ea + 1 = ia := by rw [hi]; rfl
      walk_at "go body_within_part hp hs ht a1 hi a2"
      refine lc_fun (k := pairD) hz (fun p => .tup [.str p.1, p.2, .int (deep + 1), .int ia]) (fun p _ => ?_) ?_
      · walk_at "go l4"
      · walk_at "go"
theorem e_within {b : List St} {d e : Int} (hb : b.length ≤ 100000) : sem_within [.fz (boD b), .fz (.int d), .fz (.int e)] = .new (.lst (b.map fun s => .tup [.str "statement", s.d, .int d, .int e])) [.no, .no, .no] := by
  have hz : b.length ≤ sizeLine := sl16 (by omega)
  have l4 : (4 : Nat) ≤ sizeLine := sn (by omega)
  refine fn_eqN ?_
  walk_at "go body_within rTL"
  refine lc_fun hz (fun s => .tup [.str "statement", s.d, .int d, .int e]) (fun s _ => ?_) ?_
  · walk_at "go l4"
  · walk_at "go"

/-! ## is_program says yes -/
def Ex.V : Ex → Prop
  | .text w => Wd w
  | .name n => Nm n
  | .join a b => a.V ∧ b.V
  | .turn a => a.V
  | .rest a => a.V
  | .first a => a.V
  | _ => True
def Ex.nn : Ex → Nat
  | .join a b => a.nn + b.nn + 1
  | .turn a => a.nn + 1
  | .rest a => a.nn + 1
  | .first a => a.nn + 1
  | _ => 1
def Cn.V : Cn → Prop
  | .same a b => a.V ∧ b.V
  | .ahead a b => a.V ∧ b.V
  | .isin a b => a.V ∧ b.V
  | .no c => c.V
def Cn.nn : Cn → Nat
  | .same a b => a.nn + b.nn + 1
  | .ahead a b => a.nn + b.nn + 1
  | .isin a b => a.nn + b.nn + 1
  | .no c => c.nn + 1
mutual
def St.V : St → Prop
  | .say e => e.V
  | .lt n e => Nm n ∧ e.V
  | .cond c a b => c.V ∧ VL a ∧ VL b
  | .each n b => Nm n ∧ VL b
def VL : List St → Prop
  | [] => True
  | s :: r => s.V ∧ VL r
end
mutual
def St.nn : St → Nat
  | .say e => e.nn + 1
  | .lt _ e => e.nn + 1
  | .cond c a b => c.nn + nnL a + nnL b + 1
  | .each _ b => nnL b + 1
def nnL : List St → Nat
  | [] => 0
  | s :: r => s.nn + nnL r
end
mutual
def St.ea : St → Nat
  | .cond _ a b => max (eaL a) (eaL b)
  | .each _ b => eaL b + 1
  | _ => 0
def eaL : List St → Nat
  | [] => 0
  | s :: r => max s.ea (eaL r)
end
theorem eaL_mem : ∀ {b : List St} {s : St}, s ∈ b → s.ea ≤ eaL b
  | x :: b, s, h => by
    rw [eaL]
    rcases List.mem_cons.mp h with rfl | h
    · omega
    · have := eaL_mem h; omega
theorem vl_mem : ∀ {b : List St} {s : St}, VL b → s ∈ b → s.V
  | x :: b, s, hv, h => by
    rw [VL] at hv
    rcases List.mem_cons.mp h with rfl | h
    · exact hv.1
    · exact vl_mem hv.2 h
theorem nn_pos : ∀ s : St, 1 ≤ s.nn := fun s => by cases s <;> simp [St.nn]
theorem enn_pos : ∀ s : Ex, 1 ≤ s.nn := fun s => by cases s <;> simp [Ex.nn]
theorem cnn_pos : ∀ s : Cn, 1 ≤ s.nn := fun s => by cases s <;> simp [Cn.nn]
theorem nnL_len : ∀ b : List St, b.length ≤ nnL b
  | [] => Nat.le_refl _
  | s :: r => by rw [nnL, List.length_cons]; have := nn_pos s; have := nnL_len r; omega
inductive It where
  | st (s : St) (d e : Int) | ex (x : Ex) (d e : Int) | cn (c : Cn) (d e : Int) | nm (n : Str) (d e : Int) | wd (w : Str) (d e : Int) | bo (b : List St) (d e : Int)
def It.D : It → D
  | .st s d e => .tup [.str "statement", s.d, .int d, .int e]
  | .ex x d e => .tup [.str "e", x.d, .int d, .int e]
  | .cn c d e => .tup [.str "c", c.d, .int d, .int e]
  | .nm n d e => .tup [.str "name", .str n, .int d, .int e]
  | .wd w d e => .tup [.str "word", .str w, .int d, .int e]
  | .bo b d e => .tup [.str "body", boD b, .int d, .int e]
def It.ok : It → Prop
  | .st s d e => s.V ∧ d + s.dep ≤ 21 ∧ e + s.ea ≤ 2
  | .ex x d e => x.V ∧ d + x.dep ≤ 21 ∧ e ≤ 2
  | .cn c d e => c.V ∧ d + c.dep ≤ 21 ∧ e ≤ 2
  | .nm n _ _ => Nm n
  | .wd w _ _ => Wd w
  | .bo b d e => VL b ∧ d + depL b ≤ 21 ∧ e + eaL b ≤ 2
def It.nn : It → Nat
  | .st s _ _ => s.nn
  | .ex x _ _ => x.nn
  | .cn c _ _ => c.nn
  | .bo b _ _ => nnL b
  | _ => 0
def It.w : It → Nat
  | .st s _ _ => 4 * s.nn
  | .ex x _ _ => 4 * x.nn
  | .cn c _ _ => 4 * c.nn
  | .bo b _ _ => 4 * nnL b + 1
  | _ => 1
def kids : It → List It
  | .st (.say x) d e => [.ex x (d + 1) e]
  | .st (.lt n x) d e => [.nm n (d + 1) e, .ex x (d + 1) e]
  | .st (.cond c a b) d e => [.cn c (d + 1) e, .bo a (d + 1) e, .bo b (d + 1) e]
  | .st (.each n b) d e => [.nm n (d + 1) (e + 1), .bo b (d + 1) (e + 1)]
  | .ex (.text w) d e => [.wd w (d + 1) e]
  | .ex (.name n) d e => [.nm n (d + 1) e]
  | .ex .many _ _ => []
  | .ex .last _ _ => []
  | .ex (.join a b) d e => [.ex a (d + 1) e, .ex b (d + 1) e]
  | .ex (.turn a) d e => [.ex a (d + 1) e]
  | .ex (.rest a) d e => [.ex a (d + 1) e]
  | .ex (.first a) d e => [.ex a (d + 1) e]
  | .cn (.same a b) d e => [.ex a (d + 1) e, .ex b (d + 1) e]
  | .cn (.ahead a b) d e => [.ex a (d + 1) e, .ex b (d + 1) e]
  | .cn (.isin a b) d e => [.ex a (d + 1) e, .ex b (d + 1) e]
  | .cn (.no c) d e => [.cn c (d + 1) e]
  | .bo b d e => b.map fun s => .st s d e
  | _ => []
def nnS (l : List It) : Nat := (l.map It.nn).sum
def wS (l : List It) : Nat := (l.map It.w).sum
theorem nnS_app (a b : List It) : nnS (a ++ b) = nnS a + nnS b := by unfold nnS; rw [List.map_append, List.sum_append]
theorem wS_app (a b : List It) : wS (a ++ b) = wS a + wS b := by unfold wS; rw [List.map_append, List.sum_append]
theorem w_pos : ∀ i : It, 1 ≤ i.w := fun i => by
  cases i with
  | st s d e => have := nn_pos s; simp only [It.w]; omega
  | ex s d e => have := enn_pos s; simp only [It.w]; omega
  | cn s d e => have := cnn_pos s; simp only [It.w]; omega
  | _ => simp [It.w]
theorem wS_len : ∀ l : List It, l.length ≤ wS l
  | [] => Nat.le_refl _
  | i :: r => by
    have := wS_len r
    have := w_pos i
    unfold wS at *
    rw [List.map_cons, List.sum_cons, List.length_cons]; omega
theorem st_sum (d e : Int) : ∀ b : List St, nnS (b.map fun s => It.st s d e) = nnL b ∧ wS (b.map fun s => It.st s d e) = 4 * nnL b
  | [] => ⟨rfl, rfl⟩
  | s :: r => by
    obtain ⟨h1, h2⟩ := st_sum d e r
    unfold nnS wS at *
    simp only [List.map_cons, List.sum_cons, It.nn, It.w, nnL] at *
    omega
def isNode : It → Bool
  | .st _ _ _ => true
  | .ex _ _ _ => true
  | .cn _ _ _ => true
  | _ => false
theorem kid_sum (i : It) : nnS (kids i) + (if isNode i = true then 1 else 0) = i.nn ∧ wS (kids i) < i.w := by
  cases i with
  | st s d e => cases s <;> simp [kids, nnS, wS, It.nn, It.w, isNode, St.nn] <;> omega
  | ex s d e => cases s <;> simp [kids, nnS, wS, It.nn, It.w, isNode, Ex.nn] <;> omega
  | cn s d e => cases s <;> simp [kids, nnS, wS, It.nn, It.w, isNode, Cn.nn] <;> omega
  | bo b d e =>
    obtain ⟨h1, h2⟩ := st_sum d e b
    refine ⟨?_, ?_⟩
    · show nnS (b.map fun s => It.st s d e) + 0 = nnL b; omega
    · show wS (b.map fun s => It.st s d e) < 4 * nnL b + 1; omega
  | nm n d e => simp [kids, nnS, wS, It.nn, It.w, isNode]
  | wd n d e => simp [kids, nnS, wS, It.nn, It.w, isNode]
theorem kid_ok (i : It) (h : i.ok) : ∀ j, j ∈ kids i → j.ok := by
  cases i with
  | st s d e =>
    obtain ⟨h1, h2, h3⟩ := h
    cases s <;> simp only [kids, St.V, St.dep, St.ea, List.mem_cons, List.not_mem_nil, or_false, forall_eq_or_imp, forall_eq, It.ok] at * <;> (try simp only [h1, true_and]) <;> (try refine ⟨?_, ?_⟩) <;> (try refine ⟨?_, ?_⟩) <;> first | omega | (refine ⟨h1.1, ?_⟩; omega) | exact h1.1 | (refine ⟨by omega, by omega⟩) | skip
  | ex s d e =>
    obtain ⟨h1, h2, h3⟩ := h
    cases s <;> simp only [kids, Ex.V, Ex.dep, List.mem_cons, List.not_mem_nil, or_false, forall_eq_or_imp, forall_eq, It.ok, false_implies, implies_true] at * <;> (try simp only [h1, true_and]) <;> (try refine ⟨?_, ?_⟩) <;> first | omega | (refine ⟨by omega, by omega⟩) | skip
  | cn s d e =>
    obtain ⟨h1, h2, h3⟩ := h
    cases s <;> simp only [kids, Cn.V, Cn.dep, List.mem_cons, List.not_mem_nil, or_false, forall_eq_or_imp, forall_eq, It.ok] at * <;> (try simp only [h1, true_and]) <;> (try refine ⟨?_, ?_⟩) <;> first | omega | (refine ⟨by omega, by omega⟩) | skip
  | bo b d e =>
    obtain ⟨h1, h2, h3⟩ := h
    intro j hj
    obtain ⟨s, hs, rfl⟩ := List.mem_map.mp hj
    refine ⟨vl_mem h1 hs, ?_, ?_⟩
    · have := depL_mem hs; omega
    · have := eaL_mem hs; omega
  | nm n d e => intro j hj; cases hj
  | wd n d e => intro j hj; cases hj

theorem sdep_pos : ∀ s : St, 1 ≤ s.dep := fun s => by cases s <;> simp [St.dep]
theorem emp_snoc {xs : List D} {d : D} : (xs ++ [d]).isEmpty = false := by simp
theorem e_node_s : ∀ (s : St) (d e : Int), (It.st s d e).ok → sem_within_part [.fz (.str "statement"), .fz s.d, .fz (.int d), .fz (.int e)] = .val (.lst ((kids (.st s d e)).map It.D)) [.no, .no, .no, .no]
  | .say x, d, e, h => by
    obtain ⟨h1, h2, h3⟩ := h
    have p := sdep_pos (.say x)
    have hh := e_wpart (ps := [("e", x.d)]) (deep := d) (ea := e) (ia := e) pa_S_say q_statement_statement q_say_each (by omega) (by simp) (by omega) (by simp)
    exact hh
  | .lt n x, d, e, h => by
    obtain ⟨h1, h2, h3⟩ := h
    have p := sdep_pos (.lt n x)
    have hh := e_wpart (ps := [("name", .str n), ("e", x.d)]) (deep := d) (ea := e) (ia := e) pa_S_let q_statement_statement q_let_each (by omega) (by simp) (by omega) (by simp)
    exact hh
  | .cond c a b, d, e, h => by
    obtain ⟨h1, h2, h3⟩ := h
    have p := sdep_pos (.cond c a b)
    rw [St.ea] at h3
    rw [show St.d (.cond c a b) = _ from by rw [St.d]]
    rw [dL_map, dL_map]
    have hh := e_wpart (ps := [("c", c.d), ("body", boD a), ("body", boD b)]) (deep := d) (ea := e) (ia := e) pa_S_if q_statement_statement q_if_each (by omega) (by simp) (by omega) (by simp)
    exact hh
  | .each n b, d, e, h => by
    obtain ⟨h1, h2, h3⟩ := h
    have p := sdep_pos (.each n b)
    rw [St.ea] at h3
    rw [show St.d (.each n b) = _ from by rw [St.d]]
    rw [dL_map]
    have hh := e_wpart (ps := [("name", .str n), ("body", boD b)]) (deep := d) (ea := e) (ia := e + 1) pa_S_each q_statement_statement q_each_each (by omega) (by simp) (by omega) (by simp)
    exact hh
theorem e_node_e : ∀ (s : Ex) (d e : Int), (It.ex s d e).ok → sem_within_part [.fz (.str "e"), .fz s.d, .fz (.int d), .fz (.int e)] = .val (.lst ((kids (.ex s d e)).map It.D)) [.no, .no, .no, .no]
  | .text w, d, e, h => by
    obtain ⟨h1, h2, h3⟩ := h
    have p := dep_pos (.text w)
    have hh := e_wpart (ps := [("word", .str w)]) (deep := d) (ea := e) (ia := e) pa_E_text q_e_statement q_text_each (by omega) (by simp) (by omega) (by simp)
    exact hh
  | .name n, d, e, h => by
    obtain ⟨h1, h2, h3⟩ := h
    have p := dep_pos (.name n)
    have hh := e_wpart (ps := [("name", .str n)]) (deep := d) (ea := e) (ia := e) pa_E_name q_e_statement q_name_each (by omega) (by simp) (by omega) (by simp)
    exact hh
  | .many, d, e, h => by
    obtain ⟨h1, h2, h3⟩ := h
    have p := dep_pos (.many)
    have hh := e_wpart (ps := []) (deep := d) (ea := e) (ia := e) pa_E_many q_e_statement q_many_each (by omega) (by simp) (by omega) (by simp)
    exact hh
  | .last, d, e, h => by
    obtain ⟨h1, h2, h3⟩ := h
    have p := dep_pos (.last)
    have hh := e_wpart (ps := []) (deep := d) (ea := e) (ia := e) pa_E_last q_e_statement q_last_each (by omega) (by simp) (by omega) (by simp)
    exact hh
  | .join a b, d, e, h => by
    obtain ⟨h1, h2, h3⟩ := h
    have p := dep_pos (.join a b)
    have hh := e_wpart (ps := [("e", a.d), ("e", b.d)]) (deep := d) (ea := e) (ia := e) pa_E_join q_e_statement q_join_each (by omega) (by simp) (by omega) (by simp)
    exact hh
  | .turn a, d, e, h => by
    obtain ⟨h1, h2, h3⟩ := h
    have p := dep_pos (.turn a)
    have hh := e_wpart (ps := [("e", a.d)]) (deep := d) (ea := e) (ia := e) pa_E_turn q_e_statement q_turn_each (by omega) (by simp) (by omega) (by simp)
    exact hh
  | .rest a, d, e, h => by
    obtain ⟨h1, h2, h3⟩ := h
    have p := dep_pos (.rest a)
    have hh := e_wpart (ps := [("e", a.d)]) (deep := d) (ea := e) (ia := e) pa_E_rest q_e_statement q_rest_each (by omega) (by simp) (by omega) (by simp)
    exact hh
  | .first a, d, e, h => by
    obtain ⟨h1, h2, h3⟩ := h
    have p := dep_pos (.first a)
    have hh := e_wpart (ps := [("e", a.d)]) (deep := d) (ea := e) (ia := e) pa_E_first q_e_statement q_first_each (by omega) (by simp) (by omega) (by simp)
    exact hh
theorem e_node_c : ∀ (s : Cn) (d e : Int), (It.cn s d e).ok → sem_within_part [.fz (.str "c"), .fz s.d, .fz (.int d), .fz (.int e)] = .val (.lst ((kids (.cn s d e)).map It.D)) [.no, .no, .no, .no]
  | .same a b, d, e, h => by
    obtain ⟨h1, h2, h3⟩ := h
    have p := cdep_pos (.same a b)
    have hh := e_wpart (ps := [("e", a.d), ("e", b.d)]) (deep := d) (ea := e) (ia := e) pa_C_same q_c_statement q_same_each (by omega) (by simp) (by omega) (by simp)
    exact hh
  | .ahead a b, d, e, h => by
    obtain ⟨h1, h2, h3⟩ := h
    have p := cdep_pos (.ahead a b)
    have hh := e_wpart (ps := [("e", a.d), ("e", b.d)]) (deep := d) (ea := e) (ia := e) pa_C_ahead q_c_statement q_ahead_each (by omega) (by simp) (by omega) (by simp)
    exact hh
  | .isin a b, d, e, h => by
    obtain ⟨h1, h2, h3⟩ := h
    have p := cdep_pos (.isin a b)
    have hh := e_wpart (ps := [("e", a.d), ("e", b.d)]) (deep := d) (ea := e) (ia := e) pa_C_in q_c_statement q_in_each (by omega) (by simp) (by omega) (by simp)
    exact hh
  | .no c, d, e, h => by
    obtain ⟨h1, h2, h3⟩ := h
    have p := cdep_pos (.no c)
    have hh := e_wpart (ps := [("c", c.d)]) (deep := d) (ea := e) (ia := e) pa_C_not q_c_statement q_not_each (by omega) (by simp) (by omega) (by simp)
    exact hh
theorem in_statement : oIn (.str "statement") (.tup [.str "name", .str "word"]) = some (.bl false) := (dIn_two (by decide +kernel) (by decide +kernel)).trans (congrArg (fun b => some (D.bl b)) (by decide +kernel))
theorem in_e : oIn (.str "e") (.tup [.str "name", .str "word"]) = some (.bl false) := (dIn_two (by decide +kernel) (by decide +kernel)).trans (congrArg (fun b => some (D.bl b)) (by decide +kernel))
theorem in_c : oIn (.str "c") (.tup [.str "name", .str "word"]) = some (.bl false) := (dIn_two (by decide +kernel) (by decide +kernel)).trans (congrArg (fun b => some (D.bl b)) (by decide +kernel))
theorem in_name : oIn (.str "name") (.tup [.str "name", .str "word"]) = some (.bl true) := (dIn_two (by decide +kernel) (by decide +kernel)).trans (congrArg (fun b => some (D.bl b)) (by decide +kernel))
theorem in_word : oIn (.str "word") (.tup [.str "name", .str "word"]) = some (.bl true) := (dIn_two (by decide +kernel) (by decide +kernel)).trans (congrArg (fun b => some (D.bl b)) (by decide +kernel))
theorem in_body : oIn (.str "body") (.tup [.str "name", .str "word"]) = some (.bl false) := (dIn_two (by decide +kernel) (by decide +kernel)).trans (congrArg (fun b => some (D.bl b)) (by decide +kernel))
theorem snoc_cases {α : Type} (xs : List α) : xs = [] ∨ ∃ a x, xs = a ++ [x] := by
  rcases List.eq_nil_or_concat xs with h | ⟨a, x, h⟩
  · exact .inl h
  · exact .inr ⟨a, x, by rw [h, List.concat_eq_append]⟩
theorem l0e : ([] : List D).length = 0 := rfl
theorem e_is_program {b : List St} (hv : VL b) (hd : depL b ≤ 20) (he : eaL b ≤ 2) (hn : nnL b ≤ 500) : sem_is_program [.fz (boD b)] = .val (.bl true) [.no] := by
  have hb := nnL_len b
  have ew := e_within (b := b) (d := 1) (e := 0) (by omega)
  have l2 : (2 : Nat) ≤ sizeLine := sn (by omega)
  have l0 : (0 : Nat) ≤ sizeLine := Nat.zero_le _
  obtain ⟨s1, s2⟩ := st_sum 1 0 b
  refine fn_eq ?_
  walk_at "go body_is_program ew"
  refine while_run (fun k E => ∃ (its : List It) (many : Int) (x3 x4 x5 x6 x7 : Sl), k ≤ 2000 ∧ (∀ i, i ∈ its → i.ok) ∧ wS its = k ∧ many + nnS its ≤ 500 ∧ E = [.fz (boD b), .own (.lst (its.map It.D)), .fz (.int many), x3, x4, x5, x6, x7]) (4 * nnL b) (by omega) ⟨b.map fun s => .st s 1 0, 0, _, _, _, _, _, by omega, ?_, s2, by omega, by rw [List.map_map]; rfl⟩ ?_
  · intro i hi
    obtain ⟨s, hs, rfl⟩ := List.mem_map.mp hi
    refine ⟨vl_mem hv hs, ?_, ?_⟩
    · have := depL_mem hs; omega
    · have := eaL_mem hs; omega
  rintro k E ⟨its, many, x3, x4, x5, x6, x7, hk2, hok, hw, hm, rfl⟩
  rcases snoc_cases its with rfl | ⟨pre, it, rfl⟩
  · walk_at "go List.map_nil List.isEmpty_nil"
  have hit := hok it (by simp)
  have hpre : ∀ i, i ∈ pre → i.ok := fun i hi => hok i (by simp [hi])
  obtain ⟨k1, k2⟩ := kid_sum it
  have k3 := kid_ok it hit
  rw [nnS_app] at hm
  rw [wS_app] at hw
  have e1 : nnS [it] = it.nn := by unfold nnS; simp
  have e2 : wS [it] = it.w := by unfold wS; simp
  have fin : ∀ m : Int, m = many + (if isNode it = true then 1 else 0) → ∀ y3 y4 y5 y6 y7 : Sl, ∃ j, j < k ∧ ∃ (its : List It) (many : Int) (x3 x4 x5 x6 x7 : Sl), j ≤ 2000 ∧ (∀ i, i ∈ its → i.ok) ∧ wS its = j ∧ many + nnS its ≤ 500 ∧
      [Sl.fz (boD b), .own (.lst (pre.map It.D ++ (kids it).map It.D)), .fz (.int m), y3, y4, y5, y6, y7] = [.fz (boD b), .own (.lst (its.map It.D)), .fz (.int many), x3, x4, x5, x6, x7] := by
    intro m hm2 y3 y4 y5 y6 y7
    refine ⟨wS (pre ++ kids it), ?_, pre ++ kids it, m, y3, y4, y5, y6, y7, by rw [wS_app]; omega, fun i hi => ?_, rfl, ?_, by rw [List.map_append]⟩
    · rw [wS_app]; omega
    · rcases List.mem_append.mp hi with h | h
      · exact hpre i h
      · exact k3 i h
    · rw [nnS_app]
      by_cases hnode : isNode it = true
      · rw [if_pos hnode] at hm2 k1; omega
      · rw [if_neg hnode] at hm2 k1; omega
  have hm1 : many ≤ 500 := by omega
  have b1 : decide ((500 : Int) < many) = false := decide_eq_false (by omega)
  have wl := wS_len pre
  have wl2 := wS_len (kids it)
  have hl : (pre.map It.D).length + ((kids it).map It.D).length ≤ sizeLine := sl16 (by
    rw [List.length_map, List.length_map]; omega)
  have hl0 : (pre.map It.D).length ≤ sizeLine := sl16 (by rw [List.length_map]; omega)
  cases it with
  | st s d e =>
    have ew := e_node_s s d e hit
    have p := nn_pos s
    have b2 : decide ((500 : Int) < many + 1) = false := decide_eq_false (by simp only [It.nn] at *; omega)
    walk_at "go List.map_append List.map_cons List.map_nil emp_snoc x_pop It.D in_statement in_e in_c in_name in_word in_body q_statement_statement q_statement_e q_statement_c q_statement_name q_statement_word q_statement_body q_e_statement q_e_e q_e_c q_e_name q_e_word q_e_body q_c_statement q_c_e q_c_c q_c_name q_c_word q_c_body q_name_statement q_name_e q_name_c q_name_name q_name_word q_name_body q_word_statement q_word_e q_word_c q_word_name q_word_word q_word_body q_body_statement q_body_e q_body_c q_body_name q_body_word q_body_body ew b2 l2"
    all_goals first | exact fin _ (by simp [isNode]) _ _ _ _ _ | exact ⟨hl, fin _ (by simp [isNode]) _ _ _ _ _⟩
  | ex s d e =>
    have ew := e_node_e s d e hit
    have p := enn_pos s
    have b2 : decide ((500 : Int) < many + 1) = false := decide_eq_false (by simp only [It.nn] at *; omega)
    walk_at "go List.map_append List.map_cons List.map_nil emp_snoc x_pop It.D in_statement in_e in_c in_name in_word in_body q_statement_statement q_statement_e q_statement_c q_statement_name q_statement_word q_statement_body q_e_statement q_e_e q_e_c q_e_name q_e_word q_e_body q_c_statement q_c_e q_c_c q_c_name q_c_word q_c_body q_name_statement q_name_e q_name_c q_name_name q_name_word q_name_body q_word_statement q_word_e q_word_c q_word_name q_word_word q_word_body q_body_statement q_body_e q_body_c q_body_name q_body_word q_body_body ew b2 l2"
    all_goals first | exact fin _ (by simp [isNode]) _ _ _ _ _ | exact ⟨hl, fin _ (by simp [isNode]) _ _ _ _ _⟩
  | cn s d e =>
    have ew := e_node_c s d e hit
    have p := cnn_pos s
    have b2 : decide ((500 : Int) < many + 1) = false := decide_eq_false (by simp only [It.nn] at *; omega)
    walk_at "go List.map_append List.map_cons List.map_nil emp_snoc x_pop It.D in_statement in_e in_c in_name in_word in_body q_statement_statement q_statement_e q_statement_c q_statement_name q_statement_word q_statement_body q_e_statement q_e_e q_e_c q_e_name q_e_word q_e_body q_c_statement q_c_e q_c_c q_c_name q_c_word q_c_body q_name_statement q_name_e q_name_c q_name_name q_name_word q_name_body q_word_statement q_word_e q_word_c q_word_name q_word_word q_word_body q_body_statement q_body_e q_body_c q_body_name q_body_word q_body_body ew b2 l2"
    all_goals first | exact fin _ (by simp [isNode]) _ _ _ _ _ | exact ⟨hl, fin _ (by simp [isNode]) _ _ _ _ _⟩
  | bo b2 d e =>
    have hb2 := nnL_len b2
    have ew : sem_within [.fz (boD b2), .fz (.int d), .fz (.int e)] = .new (.lst ((kids (.bo b2 d e)).map It.D)) [.no, .no, .no] := by
      rw [e_within (by simp only [It.nn, It.w] at *; omega)]
      show _ = FR.new (.lst ((b2.map fun s => It.st s d e).map It.D)) _
      rw [List.map_map]; rfl
    walk_at "go List.map_append List.map_cons List.map_nil emp_snoc x_pop It.D in_statement in_e in_c in_name in_word in_body q_statement_statement q_statement_e q_statement_c q_statement_name q_statement_word q_statement_body q_e_statement q_e_e q_e_c q_e_name q_e_word q_e_body q_c_statement q_c_e q_c_c q_c_name q_c_word q_c_body q_name_statement q_name_e q_name_c q_name_name q_name_word q_name_body q_word_statement q_word_e q_word_c q_word_name q_word_word q_word_body q_body_statement q_body_e q_body_c q_body_name q_body_word q_body_body ew b1 l2"
    all_goals first | exact fin _ (by simp [isNode]) _ _ _ _ _ | exact ⟨hl, fin _ (by simp [isNode]) _ _ _ _ _⟩
  | nm n d e =>
    have ew := e_leaf_n hit
    walk_at "go List.map_append List.map_cons List.map_nil emp_snoc x_pop It.D in_statement in_e in_c in_name in_word in_body q_statement_statement q_statement_e q_statement_c q_statement_name q_statement_word q_statement_body q_e_statement q_e_e q_e_c q_e_name q_e_word q_e_body q_c_statement q_c_e q_c_c q_c_name q_c_word q_c_body q_name_statement q_name_e q_name_c q_name_name q_name_word q_name_body q_word_statement q_word_e q_word_c q_word_name q_word_word q_word_body q_body_statement q_body_e q_body_c q_body_name q_body_word q_body_body ew b1 l2 l0"
    all_goals first | exact fin _ (by simp [isNode]) _ _ _ _ _ | exact ⟨hl0, fin _ (by simp [isNode]) _ _ _ _ _⟩
  | wd n d e =>
    have ew := e_leaf_w hit
    walk_at "go List.map_append List.map_cons List.map_nil emp_snoc x_pop It.D in_statement in_e in_c in_name in_word in_body q_statement_statement q_statement_e q_statement_c q_statement_name q_statement_word q_statement_body q_e_statement q_e_e q_e_c q_e_name q_e_word q_e_body q_c_statement q_c_e q_c_c q_c_name q_c_word q_c_body q_name_statement q_name_e q_name_c q_name_name q_name_word q_name_body q_word_statement q_word_e q_word_c q_word_name q_word_word q_word_body q_body_statement q_body_e q_body_c q_body_name q_body_word q_body_body ew b1 l2 l0"
    all_goals first | exact fin _ (by simp [isNode]) _ _ _ _ _ | exact ⟨hl0, fin _ (by simp [isNode]) _ _ _ _ _⟩

/-! ## drawn words and names -/
def nqK (M : Nv → Prop) (Q : Fl → Nv → Prop) (_ : Tg (M, Q)) (fl : Fl) (E : Nv) : Prop := match fl with
  | .nx => M E
  | fl => Q fl E
theorem nqK_nx {M : Nv → Prop} {Q : Fl → Nv → Prop} {g : Tg (M, Q)} {E : Nv} : nqK M Q g .nx E = M E := rfl
theorem nqK_rt {M : Nv → Prop} {Q : Fl → Nv → Prop} {g : Tg (M, Q)} {E : Nv} {d : D} : nqK M Q g (.rt d) E = Q (.rt d) E := rfl
/-- what holds between two statements, the first of which may return -/
theorem seq_cutR {s t : Nv → R Fl} {Q : Fl → Nv → Prop} {E : Nv} (M : Nv → Prop) (h1 : run (nqK M Q ()) () (s E)) (h2 : ∀ E, M E → run Q () (t E)) : run Q () (fSeq s t E) := by
  rw [x_seq]
  refine wp_imp h1 fun fl E1 q => ?_
  cases fl with
  | nx => exact h2 E1 q
  | _ => exact q
theorem wd_of {s : Str} (h : s.length ≤ 40) (hc : ∀ c, c ∈ s.cps.toList → 32 ≤ c ∧ c ≤ 126) : Wd s := wd_iff.mpr ⟨h, hc⟩
theorem rep_list (z : Str) (n : Int) : (repS z n).cps.toList = (List.replicate n.toNat z.cps.toList).flatten := by unfold repS; rw [List.toList_toArray]
theorem rep_len (z : Str) (n : Int) : (repS z n).length = n.toNat * z.length := by
  show (repS z n).cps.size = _
  unfold repS
  rw [List.size_toArray, List.length_flatten]
  simp
  rfl
theorem rep_mem {z : Str} {n : Int} {c : Nat} (h : c ∈ (repS z n).cps.toList) : c ∈ z.cps.toList := by
  rw [rep_list] at h
  obtain ⟨l, hl, hc⟩ := List.mem_flatten.mp h
  rw [List.mem_replicate] at hl
  rw [← hl.2]; exact hc
theorem one_list (c : Nat) : (⟨#[c]⟩ : Str).cps.toList = [c] := rfl
theorem one_len (c : Nat) : (⟨#[c]⟩ : Str).length = 1 := rfl
theorem at_str {L : List Str} {P : Str → Prop} {r : Int} (h0 : 0 ≤ r) (h1 : r < L.length) (hP : ∀ w, w ∈ L → P w) : ∃ w, atI (L.map D.str) r = some (.str w) ∧ P w := by
  obtain ⟨w, hw⟩ : ∃ w, L[r.toNat]? = some w := ⟨_, List.getElem?_eq_getElem (by omega)⟩
  exact ⟨w, atI_map h0 hw, hP w (List.mem_of_getElem? hw)⟩
theorem hr1 {n : Nat} (h : n ≤ 1000) : itR [.int (1 + (n : Int))] = some (rangeD 0 (n + 1)) := by
  have := itR_nat (n := n + 1) (by omega)
  rw [show (1 + (n : Int)) = ((n + 1 : Nat) : Int) by omega]; exact this
abbrev SG : Str := Str.ofString " !\"#$&'()*+,-./0123456789:;<=>?@ABCDEFGHIJKLMNOPQRSTUVWXYZ[\\]^_`" ++ Str.ofString "abcdefghijklmnopqrstuvwxyz{|}~"
theorem sg_ok : ∀ c, c ∈ SG.cps.toList → 32 ≤ c ∧ c ≤ 126 := by decide +kernel
theorem sg_len : 0 < SG.length ∧ SG.length ≤ 200 := by decide +kernel
theorem e_signs : sem__law_signs [] = .val (.str SG) [] := by
  have hl : (Str.ofString " !\"#$&'()*+,-./0123456789:;<=>?@ABCDEFGHIJKLMNOPQRSTUVWXYZ[\\]^_`").length + (Str.ofString "abcdefghijklmnopqrstuvwxyz{|}~").length ≤ sizeLine := sl16 (by decide +kernel)
  refine fn_eq ?_
  walk_at "go body__law_signs"
  all_goals exact hl
theorem txt_len {cs : List Nat} : (⟨cs.toArray⟩ : Str).length = cs.length := by show cs.toArray.size = _; rw [List.size_toArray]
theorem join_cs (cs : List Nat) (h : cs.length ≤ 1000) : oJoin (.str "") (.lst (cs.map fun c => D.str ⟨#[c]⟩)) = some (.str ⟨cs.toArray⟩) := by
  have e := x_join (y := Str.ofString "") (ss := cs.map fun c => (⟨#[c]⟩ : Str)) (n := 1) (fun s hs => by
    obtain ⟨c, _, rfl⟩ := List.mem_map.mp hs; exact Nat.le_refl _) (by rw [List.length_map, show (Str.ofString "").length = 0 by decide +kernel]; omega)
  rw [List.map_map] at e
  have e1 : (D.str ∘ fun c => (⟨#[c]⟩ : Str)) = fun c => D.str ⟨#[c]⟩ := rfl
  rw [e1, txt_one] at e
  exact e
theorem word_ok {h : D} {k : Nat} (hh : HandD h) : wpF (sem__law_word [.bor k h]) (fun d bs => ∃ h' s, d = .str s ∧ Wd s ∧ bs = [.bor k h'] ∧ HandD h') := by
  have e1 := e_signs
  have l4 : (4 : Nat) ≤ sizeLine := sn (by omega)
  have l3 : (3 : Nat) ≤ sizeLine := sn (by omega)
  refine fn_run ?_
  unfold body__law_word
  refine seq_cut (fun E => ∃ h' r, E = [.bor k h', .fz (.int r), .no, .no] ∧ HandD h' ∧ 0 ≤ r ∧ r < 8) ?_ ?_
  · walk_at "go"
    refine call_by (draw_ok hh (by omega) (by omega)) ?_
    rintro d bs ⟨r, h', rfl, rfl, hh', r0, r1⟩
    walk_at "go"
    exact ⟨h', r, rfl, hh', r0, r1⟩
  rintro E ⟨h1, r, rfl, hh1, r0, r1⟩
  refine seq_cutR (fun E => E = [.bor k h1, .fz (.int r), .no, .no]) ?_ ?_
  · by_cases c : r < 4
    · have c1 : decide (r < 4) = true := decide_eq_true c
      obtain ⟨w, hw, ww⟩ := at_str (L := ["", "a", "b", "ab"]) (P := Wd) r0 (by simpa using c) (by simp only [List.mem_cons, List.not_mem_nil, or_false, forall_eq_or_imp, forall_eq]; decide +kernel)
      have hw : atI [D.str "", .str "a", .str "b", .str "ab"] r = some (.str w) := hw
      walk_at "go c1 l4 hw nqK_rt"
      exact ⟨h1, w, rfl, ww, rfl, hh1⟩
    · have c1 : decide (r < 4) = false := decide_eq_false c
      walk_at "go c1 nqK_nx"
  rintro E rfl
  refine seq_cut (fun E => E = [.bor k h1, .fz (.int r), .fz (.str SG), .no]) ?_ ?_
  · walk_at "go e1"
  rintro E rfl
  refine seq_cutR (fun E => E = [.bor k h1, .fz (.int r), .fz (.str SG), .no]) ?_ ?_
  · by_cases c : r < 7
    · have c1 : decide (r < 7) = true := decide_eq_true c
      walk_at "go c1 nqK_rt"
      refine call_by (draw_ok hh1 (by omega) (by omega)) ?_
      rintro d bs ⟨q, h2, rfl, rfl, hh2, q0, q1⟩
      obtain ⟨n, rfl⟩ := Int.eq_ofNat_of_zero_le q0
      have hr := hr1 (n := n) (by omega)
      walk_at "go hr"
      refine lc_rng (sl16 (by omega)) (fun i acc E => ∃ h cs, acc = cs.map (fun c => D.str ⟨#[c]⟩) ∧ E = [.bor k h, .fz (.int r), .fz (.str SG), .no] ∧ HandD h ∧ cs.length = i ∧ ∀ c, c ∈ cs → 32 ≤ c ∧ c ≤ 126) ⟨h2, [], rfl, rfl, hh2, rfl, by simp⟩ ?_ ?_
      · rintro i acc E hi ⟨h, cs, rfl, rfl, hh, hl, hs⟩
        walk_at "go"
        refine call_by (pickS_ok hh sg_len.1 (by have := sg_len.2; omega)) ?_
        rintro d bs ⟨h3, c, rfl, hc, rfl, hh3⟩
        walk_at "go"
        refine ⟨h3, cs ++ [c], by simp, rfl, hh3, by simp [hl], fun x hx => ?_⟩
        rcases List.mem_append.mp hx with h | h
        · exact hs x h
        · cases List.mem_singleton.mp h; exact sg_ok _ hc
      · rintro acc E2 ⟨h, cs, rfl, rfl, hh, hl, hs⟩
        have e3 := join_cs cs (by omega)
        walk_at "go e3 nqK_rt"
        exact ⟨h, _, rfl, wd_of (by rw [txt_len]; omega) (by simpa using hs), rfl, hh⟩
    · have c1 : decide (r < 7) = false := decide_eq_false c
      walk_at "go c1 nqK_nx"
  rintro E rfl
  walk_at "go"
  refine call_by (pickS_ok hh1 sg_len.1 (by have := sg_len.2; omega)) ?_
  rintro d bs ⟨h2, c, rfl, hc, rfl, hh2⟩
  walk_at "go"
  refine call_by (pickS_ok hh2 sg_len.1 (by have := sg_len.2; omega)) ?_
  rintro d bs ⟨h3, c2, rfl, hc2, rfl, hh3⟩
  have a1 : (⟨#[c]⟩ : Str).length + (⟨#[c2]⟩ : Str).length ≤ sizeLine := sl16 (by rw [one_len, one_len]; omega)
  have ln2 : ((⟨#[c]⟩ : Str) ++ ⟨#[c2]⟩).length = 2 := by rw [app_len, one_len, one_len]
  have hm := mulA_s (z := (⟨#[c]⟩ : Str) ++ ⟨#[c2]⟩) (n := 19) (by omega) (by omega) (by rw [ln2]; exact sl16 (by omega))
  walk_at "go hm"
  refine call_by (draw_ok hh3 (by omega) (by omega)) ?_
  rintro d bs ⟨q, h4, rfl, rfl, hh4, q0, q1⟩
  obtain ⟨w, hw, ww⟩ := at_str (L := ["", "a", "ab"]) (P := fun w => Wd w ∧ w.length ≤ 2) q0 (by simpa using q1) (by simp only [List.mem_cons, List.not_mem_nil, or_false, forall_eq_or_imp, forall_eq]; decide +kernel)
  have hw : atI [D.str "", .str "a", .str "ab"] q = some (.str w) := hw
  have lr : (repS ((⟨#[c]⟩ : Str) ++ ⟨#[c2]⟩) 19).length = 38 := by rw [rep_len, ln2]; rfl
  have a2 : (repS ((⟨#[c]⟩ : Str) ++ ⟨#[c2]⟩) 19).length + w.length ≤ sizeLine := sl16 (by rw [lr]; omega)
  walk_at "go l3 hw"
  refine ⟨h4, _, rfl, wd_of (by rw [app_len, lr]; omega) (fun x hx => ?_), rfl, hh4⟩
  rw [app_list] at hx
  rcases List.mem_append.mp hx with hx | hx
  · have := rep_mem hx
    rw [app_list] at this
    rcases List.mem_append.mp this with h | h
    · cases List.mem_singleton.mp h; exact sg_ok _ hc
    · cases List.mem_singleton.mp h; exact sg_ok _ hc2
  · exact (wd_iff.mp ww.1).2 x hx

theorem nm_of {s : Str} (h1 : 1 ≤ s.length) (h8 : s.length ≤ 8) (hc : ∀ c, c ∈ s.cps.toList → 97 ≤ c ∧ c ≤ 122) (hm : (s == Str.ofString "many") = false) (hl : (s == Str.ofString "last") = false) : Nm s := nm_iff.mpr ⟨h1, h8, hc, hm, hl⟩
theorem dIn_twoL {x a b : Str} (hx : PyData.strOk x = true) (hs : SeqAt.shaped (.list [.str a, .str b]) = true) : oIn (.str x) (.lst [.str a, .str b]) = some (.bl ((a == x) || (b == x))) := dIn_two hx hs
theorem ne_len {s t : Str} (h : s.length ≠ t.length) : (s == t) = false := beq_eq_false_iff_ne.mpr fun e => h (by rw [e])
theorem name_ok {h : D} {k : Nat} (hh : HandD h) : wpF (sem__law_name [.bor k h]) (fun d bs => ∃ h' s, d = .str s ∧ Nm s ∧ bs = [.bor k h'] ∧ HandD h') := by
  have l8 : (8 : Nat) ≤ sizeLine := sn (by omega)
  have l2 : (2 : Nat) ≤ sizeLine := sn (by omega)
  refine fn_run ?_
  unfold body__law_name
  refine seq_cut (fun E => ∃ h' r, E = [.bor k h', .fz (.int r), .no, .no] ∧ HandD h' ∧ 0 ≤ r ∧ r < 10) ?_ ?_
  · walk_at "go"
    refine call_by (draw_ok hh (by omega) (by omega)) ?_
    rintro d bs ⟨r, h', rfl, rfl, hh', r0, r1⟩
    walk_at "go"
    exact ⟨h', r, rfl, hh', r0, r1⟩
  rintro E ⟨h1, r, rfl, hh1, r0, r1⟩
  refine seq_cutR (fun E => E = [.bor k h1, .fz (.int r), .no, .no]) ?_ ?_
  · by_cases c : r < 8
    · have c1 : decide (r < 8) = true := decide_eq_true c
      obtain ⟨w, hw, ww⟩ := at_str (L := ["a", "b", "a", "b", "x", "each", "join", "lasts"]) (P := Nm) r0 (by simpa using c) (by simp only [List.mem_cons, List.not_mem_nil, or_false, forall_eq_or_imp, forall_eq]; decide +kernel)
      have hw : atI [D.str "a", .str "b", .str "a", .str "b", .str "x", .str "each", .str "join", .str "lasts"] r = some (.str w) := hw
      walk_at "go c1 l8 hw nqK_rt"
      exact ⟨h1, w, rfl, ww, rfl, hh1⟩
    · have c1 : decide (r < 8) = false := decide_eq_false c
      walk_at "go c1 nqK_nx"
  rintro E rfl
  refine seq_cut (fun E => ∃ (h : D) (cs : List Nat), E = [.bor k h, .fz (.int r), .fz (.str ⟨cs.toArray⟩), .no] ∧ HandD h ∧ 1 ≤ cs.length ∧ cs.length ≤ 8 ∧ ∀ c, c ∈ cs → 97 ≤ c ∧ c ≤ 122) ?_ ?_
  · walk_at "go"
    refine call_by (draw_ok hh1 (by omega) (by omega)) ?_
    rintro d bs ⟨q, h2, rfl, rfl, hh2, q0, q1⟩
    obtain ⟨n, rfl⟩ := Int.eq_ofNat_of_zero_le q0
    have hr := hr1 (n := n) (by omega)
    walk_at "go hr"
    refine lc_rng (sl16 (by omega)) (fun i acc E => ∃ h cs, acc = cs.map (fun c => D.str ⟨#[c]⟩) ∧ E = [.bor k h, .fz (.int r), .no, .no] ∧ HandD h ∧ cs.length = i ∧ ∀ c, c ∈ cs → 97 ≤ c ∧ c ≤ 122) ⟨h2, [], rfl, rfl, hh2, rfl, by simp⟩ ?_ ?_
    · rintro i acc E hi ⟨h, cs, rfl, rfl, hh, hl, hs⟩
      walk_at "go"
      refine call_by (pickS_ok hh (by decide +kernel) (by decide +kernel)) ?_
      rintro d bs ⟨h3, c, rfl, hc, rfl, hh3⟩
      walk_at "go"
      refine ⟨h3, cs ++ [c], by simp, rfl, hh3, by simp [hl], fun x hx => ?_⟩
      rcases List.mem_append.mp hx with h | h
      · exact hs x h
      · cases List.mem_singleton.mp h
        have : ∀ c, c ∈ (Str.ofString "abcdefghijklmnopqrstuvwxyz").cps.toList → 97 ≤ c ∧ c ≤ 122 := by decide +kernel
        exact this _ hc
    · rintro acc E2 ⟨h, cs, rfl, rfl, hh, hl, hs⟩
      have e3 := join_cs cs (by omega)
      walk_at "go e3"
      exact ⟨h, cs, rfl, hh, by omega, by omega, hs⟩
  rintro E ⟨h, cs, rfl, hh, c1, c8, hs⟩
  have hcs : ∀ c, c ∈ (⟨cs.toArray⟩ : Str).cps.toList → 97 ≤ c ∧ c ≤ 122 := by simpa using hs
  have hlen : (⟨cs.toArray⟩ : Str).length = cs.length := txt_len
  have hw : Wd ⟨cs.toArray⟩ := wd_of (by rw [hlen]; omega) fun c hc => by have := hcs c hc; omega
  have hi := dIn_twoL (x := ⟨cs.toArray⟩) (a := "many") (b := "last") hw.ok (by decide +kernel)
  cases hb : (("many" : Str) == ⟨cs.toArray⟩) || (("last" : Str) == ⟨cs.toArray⟩) with
  | true =>
    rw [hb] at hi
    have hz := sl_wd hw none (some 1)
    have hcut : (cutS ⟨cs.toArray⟩ none (some 1)).length = 1 := by
      have e := cut_take (s := ⟨cs.toArray⟩) (n := 1)
      rw [show (1 : Int) = ((1 : Nat) : Int) from rfl, e, txt_len, List.length_take]
      show min 1 cs.length = 1
      omega
    have hm4 : (Str.ofString "many").length = 4 := by decide +kernel
    have hl2 : (Str.ofString "many").length + (cutS ⟨cs.toArray⟩ none (some 1)).length ≤ sizeLine := sl16 (by rw [hcut, hm4]; omega)
    walk_at "go l2 hi hz"
    refine ⟨h, _, rfl, nm_of (by rw [app_len, hcut, hm4]; omega) (by rw [app_len, hcut, hm4]; omega) (fun c hc => ?_) (ne_len (by rw [app_len, hcut, hm4]; omega)) (ne_len (by rw [app_len, hcut, hm4, show (Str.ofString "last").length = 4 by decide +kernel]; omega)), rfl, hh⟩
    rw [app_list] at hc
    rcases List.mem_append.mp hc with hc | hc
    · have : ∀ c, c ∈ (Str.ofString "many").cps.toList → 97 ≤ c ∧ c ≤ 122 := by decide +kernel
      exact this _ hc
    · refine hcs c ?_
      unfold cutS at hc
      rw [List.toList_toArray] at hc
      exact List.mem_of_mem_drop (List.mem_of_mem_take hc)
  | false =>
    rw [hb] at hi
    rw [Bool.or_eq_false_iff] at hb
    walk_at "go l2 hi"
    exact ⟨h, _, rfl, nm_of (by rw [hlen]; omega) (by rw [hlen]; omega) hcs (beq_eq_false_iff_ne.mpr fun e => absurd e.symm (beq_eq_false_iff_ne.mp hb.1)) (beq_eq_false_iff_ne.mpr fun e => absurd e.symm (beq_eq_false_iff_ne.mp hb.2)), rfl, hh⟩
/-! ## drawn expressions -/
abbrev RoomD (r : Int) : D := .lst [.int r]
def PoolD (p : D) : Prop := ∃ ws : List Str, p = .lst (ws.map .str) ∧ 0 < ws.length ∧ ws.length ≤ 1000 ∧ ∀ w, w ∈ ws → Wd w
theorem pickW_ok {h p : D} {k : Nat} (hh : HandD h) (hp : PoolD p) : wpF (sem__law_pick [.bor k h, .fz p]) (fun d bs => ∃ h' w, d = .str w ∧ Wd w ∧ bs = [.bor k h', .no] ∧ HandD h') := by
  obtain ⟨ws, rfl, h0, h1, hw⟩ := hp
  refine wpF_imp (pick_of (P := fun d => ∃ w, d = .str w ∧ Wd w) hh (by rw [List.length_map]; exact h0) (by rw [List.length_map]; omega) fun d hd => ?_) ?_
  · obtain ⟨w, hm, rfl⟩ := List.mem_map.mp hd
    exact ⟨w, rfl, hw w hm⟩
  · rintro d bs ⟨h', ⟨w, rfl, ww⟩, rfl, hh'⟩
    exact ⟨h', w, rfl, ww, rfl, hh'⟩
abbrev EOk (n : Nat) (m r : Int) : Prop := ∀ (h p : D) (k j : Nat), HandD h → PoolD p → wpF (sem__law_e n [.bor k h, .fz p, .bor j (RoomD r), .fz (.int m)]) (fun d bs => ∃ h' x r', d = Ex.d x ∧ bs = [.bor k h', .no, .bor j (RoomD r'), .no] ∧ HandD h' ∧ x.V ∧ (x.dep : Int) ≤ m ∧ r - r' = (x.nn : Int) ∧ (r ≤ 1 → r' = r - 1) ∧ (1 ≤ r → 1 - m ≤ r'))
theorem leaf_fin {r m : Int} (hm : 1 ≤ m) {x : Ex} (hx : x.nn = 1) (hd : x.dep = 1) : (x.dep : Int) ≤ m ∧ r - (r - 1) = (x.nn : Int) ∧ (r ≤ 1 → r - 1 = r - 1) ∧ (1 ≤ r → 1 - m ≤ r - 1) := by
  rw [hx, hd]; refine ⟨by omega, by omega, fun _ => rfl, fun _ => by omega⟩
theorem e_ok : ∀ (n : Nat) (m r : Int), 1 ≤ m → m ≤ n → EOk n m r
  | 0, m, r, h1, h2 => by omega
  | n + 1, m, r, hm, hn => by
    intro h p k j hh hp
    have ih := e_ok n
    have l1 : (1 : Nat) ≤ sizeLine := sn (by omega)
    have l2 : (2 : Nat) ≤ sizeLine := sn (by omega)
    have l3 : (3 : Nat) ≤ sizeLine := sn (by omega)
    refine fn_run ?_
    unfold body__law_e
    refine seq_cut (fun E => E = [.bor k h, .fz p, .bor j (RoomD (r - 1)), .fz (.int m), .no, .no]) ?_ ?_
    · walk_at "go"
    rintro E rfl
    refine seq_cut (fun E => ∃ h' q, E = [.bor k h', .fz p, .bor j (RoomD (r - 1)), .fz (.int m), .fz (.int q), .no] ∧ HandD h' ∧ 0 ≤ q ∧ q < 14) ?_ ?_
    · walk_at "go"
      refine call_by (draw_ok hh (by omega) (by omega)) ?_
      rintro d bs ⟨q, h', rfl, rfl, hh', q0, q1⟩
      walk_at "go"
      exact ⟨h', q, rfl, hh', q0, q1⟩
    rintro E ⟨h1, q, rfl, hh1, q0, q1⟩
    refine seq_cutR (fun E => E = [.bor k h1, .fz p, .bor j (RoomD (r - 1)), .fz (.int m), .fz (.int q), .no] ∧ ¬ (0 < r - 1 ∧ 1 < m ∧ q < 3)) ?_ ?_
    · by_cases c : 0 < r - 1 ∧ 1 < m ∧ q < 3
      · have c1 : decide (0 < r - 1) = true := decide_eq_true c.1
        have c2 : decide (1 < m) = true := decide_eq_true c.2.1
        have c3 : decide (q < 3) = true := decide_eq_true c.2.2
        walk_at "go c1 c2 c3"
        refine call_by (ih (m - 1) (r - 1) (by omega) (by omega) h1 p 0 2 hh1 hp) ?_
        rintro d bs ⟨h2, x, r2, rfl, rfl, hh2, v2, d2, n2, f2, g2⟩
        walk_at "go"
        refine call_by (ih (m - 1) r2 (by omega) (by omega) h2 p 0 2 hh2 hp) ?_
        rintro d bs ⟨h3, y, r3, rfl, rfl, hh3, v3, d3, n3, f3, g3⟩
        walk_at "go l3 nqK_rt"
        refine ⟨h3, .join x y, r3, rfl, rfl, hh3, ⟨v2, v3⟩, ?_, ?_, fun _ => by omega, fun _ => ?_⟩
        · rw [Ex.dep]; omega
        · rw [Ex.nn]; omega
        · have := g2 (by omega)
          by_cases hr : 1 ≤ r2
          · have := g3 hr; omega
          · have := f3 (by omega); omega
      · by_cases c1 : 0 < r - 1
        · have b1 : decide (0 < r - 1) = true := decide_eq_true c1
          by_cases c2 : 1 < m
          · have b2 : decide (1 < m) = true := decide_eq_true c2
            have b3 : decide (q < 3) = false := decide_eq_false (by omega)
            walk_at "go b1 b2 b3 nqK_nx"
            exact c
          · have b2 : decide (1 < m) = false := decide_eq_false c2
            walk_at "go b1 b2 nqK_nx"
            exact c
        · have b1 : decide (0 < r - 1) = false := decide_eq_false c1
          walk_at "go b1 nqK_nx"
          exact c
    rintro E ⟨rfl, hc⟩
    refine seq_cutR (fun E => E = [.bor k h1, .fz p, .bor j (RoomD (r - 1)), .fz (.int m), .fz (.int q), .no] ∧ True) ?_ ?_
    · by_cases c : 0 < r - 1 ∧ 1 < m ∧ q < 6
      · have b1 : decide (0 < r - 1) = true := decide_eq_true c.1
        have b2 : decide (1 < m) = true := decide_eq_true c.2.1
        have b3 : decide (q < 6) = true := decide_eq_true c.2.2
        · have hq : 3 ≤ q := by omega
          have hq3 : q = 3 ∨ q = 4 ∨ q = 5 := by omega
          rcases hq3 with rfl | rfl | rfl
          all_goals
            walk_at "go b1 b2 b3 l3"
            refine call_by (ih (m - 1) (r - 1) (by omega) (by omega) h1 p 0 2 hh1 hp) ?_
            rintro d bs ⟨h2, x, r2, rfl, rfl, hh2, v2, d2, n2, f2, g2⟩
            walk_at "go l2 nqK_rt"
          · refine ⟨h2, .turn x, r2, rfl, rfl, hh2, v2, by rw [Ex.dep]; omega, by rw [Ex.nn]; omega, fun _ => by omega, fun _ => by have := g2 (by omega); omega⟩
          · refine ⟨h2, .rest x, r2, rfl, rfl, hh2, v2, by rw [Ex.dep]; omega, by rw [Ex.nn]; omega, fun _ => by omega, fun _ => by have := g2 (by omega); omega⟩
          · refine ⟨h2, .first x, r2, rfl, rfl, hh2, v2, by rw [Ex.dep]; omega, by rw [Ex.nn]; omega, fun _ => by omega, fun _ => by have := g2 (by omega); omega⟩
      · by_cases c1 : 0 < r - 1
        · have b1 : decide (0 < r - 1) = true := decide_eq_true c1
          by_cases c2 : 1 < m
          · have b2 : decide (1 < m) = true := decide_eq_true c2
            have b3 : decide (q < 6) = false := decide_eq_false (by omega)
            walk_at "go b1 b2 b3 nqK_nx"
          · have b2 : decide (1 < m) = false := decide_eq_false c2
            walk_at "go b1 b2 nqK_nx"
        · have b1 : decide (0 < r - 1) = false := decide_eq_false c1
          walk_at "go b1 nqK_nx"
    rintro E ⟨rfl, _⟩
    walk_at "go l1 l2"
    all_goals first
      | (refine ⟨h1, .many, r - 1, rfl, rfl, hh1, trivial, ?_⟩; exact leaf_fin hm rfl rfl)
      | (refine ⟨h1, .last, r - 1, rfl, rfl, hh1, trivial, ?_⟩; exact leaf_fin hm rfl rfl)
      | (refine call_by (pickW_ok hh1 hp) ?_
         rintro d bs ⟨h2, w, rfl, ww, rfl, hh2⟩
         walk_at "go l2"
         refine ⟨h2, .text w, r - 1, rfl, rfl, hh2, ww, ?_⟩; exact leaf_fin hm rfl rfl)
      | (refine call_by (name_ok hh1) ?_
         rintro d bs ⟨h2, w, rfl, ww, rfl, hh2⟩
         walk_at "go l2"
         refine ⟨h2, .name w, r - 1, rfl, rfl, hh2, ww, ?_⟩; exact leaf_fin hm rfl rfl)

/-! ## drawn conditions, statements, programs -/
abbrev COk (n : Nat) (m r : Int) : Prop := ∀ (h p : D) (k j : Nat), HandD h → PoolD p → wpF (sem__law_c n [.bor k h, .fz p, .bor j (RoomD r), .fz (.int m)]) (fun d bs => ∃ h' x r', d = Cn.d x ∧ bs = [.bor k h', .no, .bor j (RoomD r'), .no] ∧ HandD h' ∧ x.V ∧ (x.dep : Int) ≤ m ∧ r - r' = (x.nn : Int) ∧ (r ≤ 1 → r' = r - 3) ∧ (1 ≤ r → -m ≤ r'))
theorem c_ok : ∀ (n : Nat) (m r : Int), 2 ≤ m → m ≤ n → m ≤ 25 → COk n m r
  | 0, m, r, h1, h2, _ => by omega
  | n + 1, m, r, hm, hn, h25 => by
    intro h p k j hh hp
    have ih := c_ok n
    have l2 : (2 : Nat) ≤ sizeLine := sn (by omega)
    have l3 : (3 : Nat) ≤ sizeLine := sn (by omega)
    refine fn_run ?_
    unfold body__law_c
    refine seq_cut (fun E => E = [.bor k h, .fz p, .bor j (RoomD (r - 1)), .fz (.int m), .no, .no]) ?_ ?_
    · walk_at "go"
    rintro E rfl
    refine seq_cut (fun E => ∃ h' q, E = [.bor k h', .fz p, .bor j (RoomD (r - 1)), .fz (.int m), .fz (.int q), .no] ∧ HandD h' ∧ 0 ≤ q ∧ q < 8) ?_ ?_
    · walk_at "go"
      refine call_by (draw_ok hh (by omega) (by omega)) ?_
      rintro d bs ⟨q, h', rfl, rfl, hh', q0, q1⟩
      walk_at "go"
      exact ⟨h', q, rfl, hh', q0, q1⟩
    rintro E ⟨h1, q, rfl, hh1, q0, q1⟩
    refine seq_cutR (fun E => E = [.bor k h1, .fz p, .bor j (RoomD (r - 1)), .fz (.int m), .fz (.int q), .no]) ?_ ?_
    · by_cases c3 : q < 2
      · have b3 : decide (q < 2) = true := decide_eq_true c3
        by_cases c1 : 0 < r - 1
        · have b1 : decide (0 < r - 1) = true := decide_eq_true c1
          by_cases c2 : 2 < m
          · have b2 : decide (2 < m) = true := decide_eq_true c2
            walk_at "go b1 b2 b3"
            refine call_by (ih (m - 1) (r - 1) (by omega) (by omega) (by omega) h1 p 0 2 hh1 hp) ?_
            rintro d bs ⟨h2, x, r2, rfl, rfl, hh2, v2, d2, n2, f2, g2⟩
            walk_at "go l2 nqK_rt"
            refine ⟨h2, .no x, r2, rfl, rfl, hh2, v2, by rw [Cn.dep]; omega, by rw [Cn.nn]; omega, fun _ => by omega, fun _ => by have := g2 (by omega); omega⟩
          · have b2 : decide (2 < m) = false := decide_eq_false c2
            walk_at "go b1 b2 b3 nqK_nx"
        · have b1 : decide (0 < r - 1) = false := decide_eq_false c1
          walk_at "go b1 b3 nqK_nx"
      · have b3 : decide (q < 2) = false := decide_eq_false c3
        walk_at "go b3 nqK_nx"
    rintro E rfl
    walk_at "go"
    refine call_by (e_ok 25 (m - 1) (r - 1) (by omega) (by omega) h1 p 0 2 hh1 hp) ?_
    rintro d bs ⟨h2, x, r2, rfl, rfl, hh2, v2, d2, n2, f2, g2⟩
    walk_at "go l3"
    refine call_by (pick_of (P := fun d => d = .str "same" ∨ d = .str "ahead" ∨ d = .str "in") hh2 (by simp) (by simp) fun d hd => by simpa using hd) ?_
    rintro d bs ⟨h3, hd, rfl, hh3⟩
    walk_at "go"
    refine call_by (e_ok 25 (m - 1) r2 (by omega) (by omega) h3 p 0 2 hh3 hp) ?_
    rintro d2' bs ⟨h4, y, r3, rfl, rfl, hh4, v3, d3, n3, f3, g3⟩
    have key : r - r3 = ((x.nn + y.nn + 1 : Nat) : Int) ∧ (r ≤ 1 → r3 = r - 3) ∧ (1 ≤ r → -m ≤ r3) := by
      refine ⟨by omega, fun hr => ?_, fun hr => ?_⟩
      · have := f2 (by omega); have := f3 (by omega); omega
      · by_cases h1 : 1 ≤ r - 1
        · have := g2 h1
          by_cases h2 : 1 ≤ r2
          · have := g3 h2; omega
          · have := f3 (by omega); omega
        · have := f2 (by omega); have := f3 (by omega); omega
    walk_at "go l3"
    rcases hd with rfl | rfl | rfl
    · exact ⟨h4, .same x y, r3, rfl, rfl, hh4, ⟨v2, v3⟩, by rw [Cn.dep]; omega, key.1, key.2.1, key.2.2⟩
    · exact ⟨h4, .ahead x y, r3, rfl, rfl, hh4, ⟨v2, v3⟩, by rw [Cn.dep]; omega, key.1, key.2.1, key.2.2⟩
    · exact ⟨h4, .isin x y, r3, rfl, rfl, hh4, ⟨v2, v3⟩, by rw [Cn.dep]; omega, key.1, key.2.1, key.2.2⟩
abbrev SOk (n : Nat) (m lo r : Int) : Prop := ∀ (h p : D) (k j : Nat), HandD h → PoolD p → wpF (sem__law_statement n [.bor k h, .fz p, .bor j (RoomD r), .fz (.int m), .fz (.int lo)])
  (fun d bs => ∃ h' x r', d = St.d x ∧ bs = [.bor k h', .no, .bor j (RoomD r'), .no, .no] ∧ HandD h' ∧ x.V ∧ (x.dep : Int) ≤ m ∧ (x.ea : Int) ≤ lo ∧ r - r' = (x.nn : Int) ∧ -m ≤ r')
abbrev BOk (n : Nat) (m lo r : Int) : Prop := ∀ (h p : D) (k j : Nat), HandD h → PoolD p → wpF (sem__law_body n [.bor k h, .fz p, .bor j (RoomD r), .fz (.int m), .fz (.int lo)])
  (fun d bs => ∃ h' b r', d = boD b ∧ bs = [.bor k h', .no, .bor j (RoomD r'), .no, .no] ∧ HandD h' ∧ VL b ∧ (depL b : Int) ≤ m ∧ (eaL b : Int) ≤ lo ∧ r - r' = (nnL b : Int) ∧ (r ≤ 0 → r' = r) ∧ (1 ≤ r → -m ≤ r'))
theorem vl_app : ∀ (a b : List St), VL a → VL b → VL (a ++ b)
  | [], _, _, h => h
  | s :: r, b, h, k => by rw [VL] at h; rw [List.cons_append, VL]; exact ⟨h.1, vl_app r b h.2 k⟩
theorem nn_app : ∀ (a b : List St), nnL (a ++ b) = nnL a + nnL b
  | [], b => by rw [List.nil_append, nnL]; omega
  | s :: r, b => by rw [List.cons_append, nnL, nnL, nn_app r b]; omega
theorem dep_app : ∀ (a b : List St), depL (a ++ b) = max (depL a) (depL b)
  | [], b => by rw [List.nil_append, depL]; omega
  | s :: r, b => by rw [List.cons_append, depL, depL, dep_app r b]; omega
theorem ea_app : ∀ (a b : List St), eaL (a ++ b) = max (eaL a) (eaL b)
  | [], b => by rw [List.nil_append, eaL]; omega
  | s :: r, b => by rw [List.cons_append, eaL, eaL, ea_app r b]; omega
theorem boD_snoc (b : List St) (s : St) : boD (b ++ [s]) = .tup (b.map St.d ++ [s.d]) := by show D.tup ((b ++ [s]).map St.d) = _; rw [List.map_append]; rfl
theorem one_st (s : St) : nnL [s] = s.nn ∧ depL [s] = s.dep ∧ eaL [s] = s.ea ∧ (s.V → VL [s]) := by
  refine ⟨by simp [nnL], by simp [depL], by simp [eaL], fun h => ?_⟩
  rw [VL, VL]; exact ⟨h, trivial⟩
theorem b_step {n : Nat} (ih : ∀ m lo r : Int, 2 ≤ m → m ≤ 20 → 2 * m ≤ n → 0 ≤ lo → 1 ≤ r → SOk n m lo r) : ∀ m lo r : Int, 1 ≤ m → m ≤ 20 → 2 * m + 1 ≤ (n + 1 : Nat) → 0 ≤ lo → BOk (n + 1) m lo r := by
  intro m lo r hm h20 hn hlo h p k j hh hp
  have l0 : (0 : Nat) ≤ sizeLine := Nat.zero_le _
  have l1 : (1 : Nat) ≤ sizeLine := sn (by omega)
  rw [sem__law_body_s]
  refine fn_run ?_
  walk_at "go body__law_body l0"
  refine call_by (draw_ok hh (by omega) (by omega)) ?_
  rintro d bs ⟨q, h1, rfl, rfl, hh1, q0, q1⟩
  obtain ⟨c, rfl⟩ := Int.eq_ofNat_of_zero_le q0
  have hr := itR_nat (n := c) (by omega)
  walk_at "go hr"
  refine for_rng (fun i E => ∃ h b r' x6, E = [.bor k h, .fz p, .bor j (RoomD r'), .fz (.int m), .fz (.int lo), .fz (boD b), x6] ∧ HandD h ∧ VL b ∧ (depL b : Int) ≤ m ∧ (eaL b : Int) ≤ lo ∧ r - r' = (nnL b : Int) ∧ (r ≤ 0 → r' = r) ∧ (1 ≤ r → -m ≤ r') ∧ b.length ≤ i) ⟨h1, [], r, _, rfl, hh1, trivial, by simp only [depL]; omega, by simp only [eaL]; omega, by simp only [nnL]; omega, fun _ => rfl, fun _ => by omega, Nat.le_refl _⟩ ?_ ?_
  · rintro i E hi ⟨h2, b, r2, x6, rfl, hh2, hv, hd, he, hnn, f2, g2, hbl⟩
    walk_at "tgt"
    by_cases c1 : 0 < r2
    · have b1 : decide (0 < r2) = true := decide_eq_true c1
      by_cases c2 : 1 < m
      · have b2 : decide (1 < m) = true := decide_eq_true c2
        walk_at "go b1 b2"
        refine call_by (ih m lo r2 (by omega) (by omega) (by omega) hlo (by omega) h2 p 0 2 hh2 hp) ?_
        rintro d bs ⟨h3, s, r3, rfl, rfl, hh3, vs, ds, es, ns, gs⟩
        have hl : (b.map St.d).length + 1 ≤ sizeLine := sl16 (by rw [List.length_map]; omega)
        walk_at "go l1 hl"
        obtain ⟨o1, o2, o3, o4⟩ := one_st s
        refine ⟨h3, b ++ [s], r3, _, by rw [boD_snoc], hh3, vl_app _ _ hv (o4 vs), by rw [dep_app, o2]; omega, by rw [ea_app, o3]; omega, by rw [nn_app, o1]; omega, fun hr0 => ?_, fun _ => gs, by rw [List.length_append, List.length_singleton]; omega⟩
        have := f2 hr0; omega
      · have b2 : decide (1 < m) = false := decide_eq_false c2
        walk_at "go b1 b2"
        exact ⟨h2, b, r2, _, rfl, hh2, hv, hd, he, hnn, f2, g2, by omega⟩
    · have b1 : decide (0 < r2) = false := decide_eq_false c1
      walk_at "go b1"
      exact ⟨h2, b, r2, _, rfl, hh2, hv, hd, he, hnn, f2, g2, by omega⟩
  · rintro E ⟨h2, b, r2, x6, rfl, hh2, hv, hd, he, hnn, f2, g2, hbl⟩
    walk_at "go"
    exact ⟨h2, b, r2, rfl, rfl, hh2, hv, hd, he, hnn, f2, g2⟩
theorem s_step {n : Nat} (ih : ∀ m lo r : Int, 1 ≤ m → m ≤ 20 → 2 * m + 1 ≤ n → 0 ≤ lo → BOk n m lo r) : ∀ m lo r : Int, 2 ≤ m → m ≤ 20 → 2 * m ≤ (n + 1 : Nat) → 0 ≤ lo → 1 ≤ r → SOk (n + 1) m lo r := by
  intro m lo r hm h20 hn hlo hr h p k j hh hp
  have l2 : (2 : Nat) ≤ sizeLine := sn (by omega)
  have l3 : (3 : Nat) ≤ sizeLine := sn (by omega)
  have l4 : (4 : Nat) ≤ sizeLine := sn (by omega)
  rw [sem__law_statement_s]
  refine fn_run ?_
  unfold body__law_statement
  refine seq_cut (fun E => E = [.bor k h, .fz p, .bor j (RoomD (r - 1)), .fz (.int m), .fz (.int lo), .no, .no, .no, .no]) ?_ ?_
  · walk_at "go"
  rintro E rfl
  refine seq_cut (fun E => ∃ h' q, E = [.bor k h', .fz p, .bor j (RoomD (r - 1)), .fz (.int m), .fz (.int lo), .fz (.int q), .no, .no, .no] ∧ HandD h' ∧ 0 ≤ q ∧ q < 12) ?_ ?_
  · walk_at "go"
    refine call_by (draw_ok hh (by omega) (by omega)) ?_
    rintro d bs ⟨q, h', rfl, rfl, hh', q0, q1⟩
    walk_at "go"
    exact ⟨h', q, rfl, hh', q0, q1⟩
  rintro E ⟨h1, q, rfl, hh1, q0, q1⟩
  refine seq_cutR (fun E => E = [.bor k h1, .fz p, .bor j (RoomD (r - 1)), .fz (.int m), .fz (.int lo), .fz (.int q), .no, .no, .no]) ?_ ?_
  · by_cases c3 : q < 3
    · have b3 : decide (q < 3) = true := decide_eq_true c3
      by_cases c1 : 0 < r - 1
      · have b1 : decide (0 < r - 1) = true := decide_eq_true c1
        by_cases c2 : 2 < m
        · have b2 : decide (2 < m) = true := decide_eq_true c2
          walk_at "go b1 b2 b3"
          refine call_by (c_ok 25 (m - 1) (r - 1) (by omega) (by omega) (by omega) h1 p 0 2 hh1 hp) ?_
          rintro d bs ⟨h2, x, r2, rfl, rfl, hh2, v2, d2, n2, f2, g2⟩
          walk_at "go"
          refine call_by (ih (m - 1) lo r2 (by omega) (by omega) (by omega) hlo h2 p 0 2 hh2 hp) ?_
          rintro d bs ⟨h3, a, r3, rfl, rfl, hh3, v3, d3, e3, n3, f3, g3⟩
          walk_at "go"
          refine call_by (ih (m - 1) lo r3 (by omega) (by omega) (by omega) hlo h3 p 0 2 hh3 hp) ?_
          rintro d bs ⟨h4, b, r4, rfl, rfl, hh4, v4, d4, e4, n4, f4, g4⟩
          walk_at "go l4 nqK_rt"
          refine ⟨h4, .cond x a b, r4, ?_, rfl, hh4, ?_, ?_, ?_, ?_, ?_⟩
          · rw [St.d, dL_map, dL_map]
          · rw [St.V]; exact ⟨v2, v3, v4⟩
          · rw [St.dep]; omega
          · rw [St.ea]; omega
          · rw [St.nn]; omega
          · have := g2 (by omega)
            by_cases z : 1 ≤ r2
            · have := g3 z
              by_cases y : 1 ≤ r3
              · have := g4 y; omega
              · have := f4 (by omega); omega
            · have := f3 (by omega)
              have := f4 (by omega); omega
        · have b2 : decide (2 < m) = false := decide_eq_false c2
          walk_at "go b1 b2 b3 nqK_nx"
      · have b1 : decide (0 < r - 1) = false := decide_eq_false c1
        walk_at "go b1 b3 nqK_nx"
    · have b3 : decide (q < 3) = false := decide_eq_false c3
      walk_at "go b3 nqK_nx"
  rintro E rfl
  refine seq_cutR (fun E => E = [.bor k h1, .fz p, .bor j (RoomD (r - 1)), .fz (.int m), .fz (.int lo), .fz (.int q), .no, .no, .no]) ?_ ?_
  · by_cases c3 : q < 6
    · have b3 : decide (q < 6) = true := decide_eq_true c3
      by_cases c1 : 0 < r - 1
      · have b1 : decide (0 < r - 1) = true := decide_eq_true c1
        by_cases c2 : 0 < lo
        · have b2 : decide (0 < lo) = true := decide_eq_true c2
          walk_at "go b1 b2 b3"
          refine call_by (name_ok hh1) ?_
          rintro d bs ⟨h2, w, rfl, ww, rfl, hh2⟩
          walk_at "go"
          refine call_by (ih (m - 1) (lo - 1) (r - 1) (by omega) (by omega) (by omega) (by omega) h2 p 0 2 hh2 hp) ?_
          rintro d bs ⟨h3, a, r3, rfl, rfl, hh3, v3, d3, e3, n3, f3, g3⟩
          walk_at "go l3 nqK_rt"
          refine ⟨h3, .each w a, r3, ?_, rfl, hh3, ?_, ?_, ?_, ?_, ?_⟩
          · rw [St.d, dL_map]
          · rw [St.V]; exact ⟨ww, v3⟩
          · rw [St.dep]; omega
          · rw [St.ea]; omega
          · rw [St.nn]; omega
          · have := g3 (by omega); omega
        · have b2 : decide (0 < lo) = false := decide_eq_false c2
          walk_at "go b1 b2 b3 nqK_nx"
      · have b1 : decide (0 < r - 1) = false := decide_eq_false c1
        walk_at "go b1 b3 nqK_nx"
    · have b3 : decide (q < 6) = false := decide_eq_false c3
      walk_at "go b3 nqK_nx"
  rintro E rfl
  have ends : ∀ (x : Ex) (r2 : Int), (x.dep : Int) ≤ m - 1 → r - 1 - r2 = (x.nn : Int) → (r - 1 ≤ 1 → r2 = r - 1 - 1) → (1 ≤ r - 1 → 1 - (m - 1) ≤ r2) → ((x.dep + 1 : Nat) : Int) ≤ m ∧ r - r2 = ((x.nn + 1 : Nat) : Int) ∧ -m ≤ r2 := by
    intro x r2 h1 h2 h3 h4
    refine ⟨by omega, by omega, ?_⟩
    by_cases z : 1 ≤ r - 1
    · have := h4 z; omega
    · have := h3 (by omega); omega
  refine seq_cutR (fun E => E = [.bor k h1, .fz p, .bor j (RoomD (r - 1)), .fz (.int m), .fz (.int lo), .fz (.int q), .no, .no, .no]) ?_ ?_
  · by_cases c3 : q = 6
    · subst c3
      walk_at "go"
      refine call_by (e_ok 25 (m - 1) (r - 1) (by omega) (by omega) h1 p 0 2 hh1 hp) ?_
      rintro d bs ⟨h2, x, r2, rfl, rfl, hh2, v2, d2, n2, f2, g2⟩
      walk_at "go l2 nqK_rt"
      obtain ⟨z1, z2, z3⟩ := ends x r2 d2 n2 f2 g2
      exact ⟨h2, .say x, r2, by rw [St.d], rfl, hh2, by rw [St.V]; exact v2, by rw [St.dep]; exact z1, by simp only [St.ea]; omega, by rw [St.nn]; exact z2, z3⟩
    · have b3 : (q == 6) = false := beq_eq_false_iff_ne.mpr c3
      walk_at "go b3 nqK_nx"
  rintro E rfl
  walk_at "go"
  refine call_by (name_ok hh1) ?_
  rintro d bs ⟨h2, w, rfl, ww, rfl, hh2⟩
  walk_at "go"
  refine call_by (e_ok 25 (m - 1) (r - 1) (by omega) (by omega) h2 p 0 2 hh2 hp) ?_
  rintro d bs ⟨h3, x, r2, rfl, rfl, hh3, v2, d2, n2, f2, g2⟩
  walk_at "go l3"
  obtain ⟨z1, z2, z3⟩ := ends x r2 d2 n2 f2 g2
  exact ⟨h3, .lt w x, r2, by rw [St.d], rfl, hh3, by rw [St.V]; exact ⟨ww, v2⟩, by rw [St.dep]; exact z1, by simp only [St.ea]; omega, by rw [St.nn]; exact z2, z3⟩
theorem sb_ok : ∀ n : Nat, (∀ m lo r : Int, 2 ≤ m → m ≤ 20 → 2 * m ≤ n → 0 ≤ lo → 1 ≤ r → SOk n m lo r) ∧ (∀ m lo r : Int, 1 ≤ m → m ≤ 20 → 2 * m + 1 ≤ n → 0 ≤ lo → BOk n m lo r)
  | 0 => ⟨fun m lo r h1 h2 h3 => by omega, fun m lo r h1 h2 h3 => by omega⟩
  | n + 1 => ⟨s_step (sb_ok n).2, b_step (sb_ok n).1⟩

/-! ## programs, whole -/
mutual
def St.nm : St → List Str
  | .say _ => []
  | .lt n _ => [n]
  | .cond _ a b => nmL a ++ nmL b
  | .each n b => n :: nmL b
def nmL : List St → List Str
  | [] => []
  | s :: r => s.nm ++ nmL r
end
theorem Ex.V.wds : ∀ {e : Ex}, e.V → e.Wds
  | .text _, h => h
  | .name _, _ => trivial
  | .many, _ => trivial
  | .last, _ => trivial
  | .join a b, h => ⟨Ex.V.wds (e := a) h.1, Ex.V.wds (e := b) h.2⟩
  | .turn a, h => Ex.V.wds (e := a) h
  | .rest a, h => Ex.V.wds (e := a) h
  | .first a, h => Ex.V.wds (e := a) h
theorem Cn.V.wds : ∀ {c : Cn}, c.V → c.Wds
  | .same _ _, h => ⟨Ex.V.wds h.1, Ex.V.wds h.2⟩
  | .ahead _ _, h => ⟨Ex.V.wds h.1, Ex.V.wds h.2⟩
  | .isin _ _, h => ⟨Ex.V.wds h.1, Ex.V.wds h.2⟩
  | .no c, h => Cn.V.wds (c := c) h
mutual
theorem good_s {U : List Str} : ∀ s : St, s.V → (∀ n, n ∈ s.nm → n ∈ U) → s.Good U
  | .say e, hv, _ => by rw [St.V] at hv; rw [St.Good]; exact hv.wds
  | .lt n e, hv, h => by rw [St.V] at hv; rw [St.nm] at h; rw [St.Good]; exact ⟨h n (by simp), hv.2.wds⟩
  | .cond c a b, hv, h => by
    rw [St.V] at hv; rw [St.nm] at h; rw [St.Good]
    exact ⟨hv.1.wds, good_l a hv.2.1 fun n hn => h n (by simp [hn]), good_l b hv.2.2 fun n hn => h n (by simp [hn])⟩
  | .each n b, hv, h => by
    rw [St.V] at hv; rw [St.nm] at h; rw [St.Good]
    exact ⟨h n (by simp), good_l b hv.2 fun n hn => h n (by simp [hn])⟩
theorem good_l {U : List Str} : ∀ b : List St, VL b → (∀ n, n ∈ nmL b → n ∈ U) → GoodL U b
  | [], _, _ => by rw [GoodL]; trivial
  | s :: r, hv, h => by
    rw [VL] at hv; rw [nmL] at h; rw [GoodL]
    exact ⟨good_s s hv.1 fun n hn => h n (by simp [hn]), good_l r hv.2 fun n hn => h n (by simp [hn])⟩
end
mutual
theorem nm_len : ∀ s : St, s.nm.length ≤ s.nn
  | .say e => by rw [St.nm]; exact Nat.zero_le _
  | .lt n e => by rw [St.nm, St.nn]; simp
  | .cond c a b => by rw [St.nm, St.nn, List.length_append]; have := nmL_len a; have := nmL_len b; omega
  | .each n b => by rw [St.nm, St.nn, List.length_cons]; have := nmL_len b; omega
theorem nmL_len : ∀ b : List St, (nmL b).length ≤ nnL b
  | [] => by rw [nmL]; exact Nat.zero_le _
  | s :: r => by rw [nmL, nnL, List.length_append]; have := nm_len s; have := nmL_len r; omega
end
structure PV (b : List St) : Prop where
  v : VL b
  d : depL b ≤ 20
  e : eaL b ≤ 2
  n : nnL b ≤ 500
theorem PV.ok {b : List St} (h : PV b) : PrOk b := ⟨h.d, nmL b, by have := nmL_len b; have := h.n; omega, good_l b h.v fun _ h => h⟩
theorem e_init {b : List St} {k : Nat} (h : PV b) : sem_Program___init__ [.bor k (.ins 0 [] []), .fz (boD b)] = .val .non [.bor k (prD b), .no] := by
  have e := e_is_program h.v h.d h.e h.n
  refine fn_eq ?_
  walk_at "go body_Program___init__ e x_fSetFld'"
  all_goals rfl
/-! equal also in kind -/
theorem is_up {n m : Nat} {s : Str} (h : PyData.strOk s = true) (hn : 1 ≤ n) : IsT n (.str s) := by
  obtain ⟨k, rfl⟩ : ∃ k, n = k + 1 := ⟨n - 1, by omega⟩
  exact is_str h
theorem is_tupN {n : Nat} {xs : List D} (hn : 2 ≤ n) (hl : xs.length ≤ 100000) (h : ∀ x, x ∈ xs → IsT (n - 1) x) : IsT n (.tup xs) := by
  obtain ⟨k, rfl⟩ : ∃ k, n = k + 2 := ⟨n - 2, by omega⟩
  exact is_tup hl h
theorem is_ex : ∀ (e : Ex) (n : Nat), e.dep + 1 ≤ n → e.V → IsT n e.d := by
  intro e
  induction e with
  | text w => intro n hn hv; have p := dep_pos (.text w); refine is_tupN (by omega) (by simp) fun x hx => ?_; simp only [List.mem_cons, List.not_mem_nil, or_false] at hx; rcases hx with rfl | rfl; exact is_up (m := 0) (by decide +kernel) (by omega); exact is_up (m := 0) (Wd.ok hv) (by omega)
  | name w => intro n hn hv; have p := dep_pos (.name w); refine is_tupN (by omega) (by simp) fun x hx => ?_; simp only [List.mem_cons, List.not_mem_nil, or_false] at hx; rcases hx with rfl | rfl; exact is_up (m := 0) (by decide +kernel) (by omega); exact is_up (m := 0) (Nm.wd hv).ok (by omega)
  | many => intro n hn hv; have p := dep_pos (.many); refine is_tupN (by omega) (by simp) fun x hx => ?_; simp only [List.mem_cons, List.not_mem_nil, or_false] at hx; subst hx; exact is_up (m := 0) (by decide +kernel) (by omega)
  | last => intro n hn hv; have p := dep_pos (.last); refine is_tupN (by omega) (by simp) fun x hx => ?_; simp only [List.mem_cons, List.not_mem_nil, or_false] at hx; subst hx; exact is_up (m := 0) (by decide +kernel) (by omega)
  | join a b iha ihb => intro n hn hv; rw [Ex.dep] at hn; refine is_tupN (by omega) (by simp) fun x hx => ?_; simp only [List.mem_cons, List.not_mem_nil, or_false] at hx; rcases hx with rfl | rfl | rfl; exact is_up (m := 0) (by decide +kernel) (by omega); exact iha _ (by omega) hv.1; exact ihb _ (by omega) hv.2
  | turn a iha => intro n hn hv; rw [Ex.dep] at hn; refine is_tupN (by omega) (by simp) fun x hx => ?_; simp only [List.mem_cons, List.not_mem_nil, or_false] at hx; rcases hx with rfl | rfl; exact is_up (m := 0) (by decide +kernel) (by omega); exact iha _ (by omega) hv
  | rest a iha => intro n hn hv; rw [Ex.dep] at hn; refine is_tupN (by omega) (by simp) fun x hx => ?_; simp only [List.mem_cons, List.not_mem_nil, or_false] at hx; rcases hx with rfl | rfl; exact is_up (m := 0) (by decide +kernel) (by omega); exact iha _ (by omega) hv
  | first a iha => intro n hn hv; rw [Ex.dep] at hn; refine is_tupN (by omega) (by simp) fun x hx => ?_; simp only [List.mem_cons, List.not_mem_nil, or_false] at hx; rcases hx with rfl | rfl; exact is_up (m := 0) (by decide +kernel) (by omega); exact iha _ (by omega) hv
theorem is_cn : ∀ (c : Cn) (n : Nat), c.dep + 1 ≤ n → c.V → IsT n c.d := by
  intro c
  induction c with
  | no c ih => intro n hn hv; rw [Cn.dep] at hn; refine is_tupN (by omega) (by simp) fun x hx => ?_; simp only [List.mem_cons, List.not_mem_nil, or_false] at hx; rcases hx with rfl | rfl; exact is_up (m := 0) (by decide +kernel) (by omega); exact ih _ (by omega) hv
  | _ a b => intro n hn hv; rw [Cn.dep] at hn; refine is_tupN (by omega) (by simp) fun x hx => ?_; simp only [List.mem_cons, List.not_mem_nil, or_false] at hx; rcases hx with rfl | rfl | rfl; exact is_up (m := 0) (by decide +kernel) (by omega); exact is_ex a _ (by omega) hv.1; exact is_ex b _ (by omega) hv.2
mutual
theorem is_st : ∀ (s : St) (n : Nat), 2 * s.dep + 1 ≤ n → s.nn ≤ 1000 → s.V → IsT n s.d
  | .say e, n, hn, _, hv => by
    rw [St.dep] at hn; rw [St.V] at hv; rw [St.d]
    refine is_tupN (by omega) (by simp) fun x hx => ?_; simp only [List.mem_cons, List.not_mem_nil, or_false] at hx; rcases hx with rfl | rfl; exact is_up (m := 0) (by decide +kernel) (by omega); exact is_ex e _ (by omega) hv
  | .lt w e, n, hn, _, hv => by
    rw [St.dep] at hn; rw [St.V] at hv; rw [St.d]
    refine is_tupN (by omega) (by simp) fun x hx => ?_; simp only [List.mem_cons, List.not_mem_nil, or_false] at hx; rcases hx with rfl | rfl | rfl; exact is_up (m := 0) (by decide +kernel) (by omega); exact is_up (m := 0) (Nm.wd hv.1).ok (by omega); exact is_ex e _ (by omega) hv.2
  | .cond c a b, n, hn, hk, hv => by
    rw [St.dep] at hn; rw [St.V] at hv; rw [St.nn] at hk; rw [St.d, dL_map, dL_map]
    refine is_tupN (by omega) (by simp) fun x hx => ?_; simp only [List.mem_cons, List.not_mem_nil, or_false] at hx; rcases hx with rfl | rfl | rfl | rfl; exact is_up (m := 0) (by decide +kernel) (by omega); exact is_cn c _ (by omega) hv.1; exact is_bo a _ (by omega) (by omega) hv.2.1; exact is_bo b _ (by omega) (by omega) hv.2.2
  | .each w b, n, hn, hk, hv => by
    rw [St.dep] at hn; rw [St.V] at hv; rw [St.nn] at hk; rw [St.d, dL_map]
    refine is_tupN (by omega) (by simp) fun x hx => ?_; simp only [List.mem_cons, List.not_mem_nil, or_false] at hx; rcases hx with rfl | rfl | rfl; exact is_up (m := 0) (by decide +kernel) (by omega); exact is_up (m := 0) (Nm.wd hv.1).ok (by omega); exact is_bo b _ (by omega) (by omega) hv.2
theorem is_bo : ∀ (b : List St) (n : Nat), 2 * depL b + 2 ≤ n → nnL b ≤ 1000 → VL b → IsT n (boD b) := fun b n hn hk hv => by
  refine is_tupN (by omega) (by rw [List.length_map]; have := nnL_len b; omega) fun x hx => ?_
  exact is_li b (n - 1) (by omega) hk hv x hx
theorem is_li : ∀ (b : List St) (n : Nat), 2 * depL b + 1 ≤ n → nnL b ≤ 1000 → VL b → ∀ x, x ∈ b.map St.d → IsT n x
  | [], n, _, _, _, x, hx => by simp at hx
  | s :: r, n, hn, hk, hv, x, hx => by
    rw [depL] at hn; rw [nnL] at hk; rw [VL] at hv
    rw [List.map_cons] at hx
    rcases List.mem_cons.mp hx with rfl | hx
    · exact is_st s n (by omega) (by omega) hv.1
    · exact is_li r n (by omega) (by omega) hv.2 x hx
end
theorem is_prog {b : List St} (h : PV b) : IsT 50 (boD b) := is_bo b 50 (by have := h.d; omega) (by have := h.n; omega) h.v
theorem program_ok {h p : D} {k : Nat} {most lo : Int} (hh : HandD h) (hp : PoolD p) (hm : 1 ≤ most) (hm2 : most ≤ 100) (hlo : 0 ≤ lo) (hlo2 : lo ≤ 2) :
    wpF (sem__law_program [.bor k h, .fz p, .fz (.int most), .fz (.int lo)]) (fun d bs => ∃ h' b, d = boD b ∧ bs = [.bor k h', .no, .no, .no] ∧ HandD h' ∧ PV b) := by
  have l0 : (0 : Nat) ≤ sizeLine := Nat.zero_le _
  have l1 : (1 : Nat) ≤ sizeLine := sn (by omega)
  have l2 : (2 : Nat) ≤ sizeLine := sn (by omega)
  have l4 : (4 : Nat) ≤ sizeLine := sn (by omega)
  refine fn_run ?_
  unfold body__law_program
  refine seq_cut (fun E => E = [.bor k h, .fz p, .fz (.int most), .fz (.int lo), .own (RoomD most), .no, .no, .no]) ?_ ?_
  · walk_at "go l1"
  rintro E rfl
  refine seq_cut (fun E => ∃ h' m, E = [.bor k h', .fz p, .fz (.int most), .fz (.int lo), .own (RoomD most), .fz (.int m), .no, .no] ∧ HandD h' ∧ 3 ≤ m ∧ m ≤ 20) ?_ ?_
  · walk_at "go l4"
    refine call_by (pick_of (P := fun d => ∃ m : Int, d = .int m ∧ 3 ≤ m ∧ m ≤ 20) hh (by simp) (by simp) fun d hd => ?_) ?_
    · simp only [List.mem_cons, List.not_mem_nil, or_false] at hd
      rcases hd with rfl | rfl | rfl | rfl
      · exact ⟨20, rfl, by omega, by omega⟩
      · exact ⟨20, rfl, by omega, by omega⟩
      · exact ⟨6, rfl, by omega, by omega⟩
      · exact ⟨3, rfl, by omega, by omega⟩
    rintro d bs ⟨h', ⟨m, rfl, m3, m20⟩, rfl, hh'⟩
    walk_at "go"
    exact ⟨h', m, rfl, hh', m3, m20⟩
  rintro E ⟨h1, m, rfl, hh1, m3, m20⟩
  refine seq_cut (fun E => E = [.bor k h1, .fz p, .fz (.int most), .fz (.int lo), .own (RoomD most), .fz (.int m), .fz (boD []), .no]) ?_ ?_
  · walk_at "go l0 List.map_nil"
    all_goals rfl
  rintro E rfl
  refine seq_cut (fun E => ∃ h b r' x6, E = [.bor k h, .fz p, .fz (.int most), .fz (.int lo), .own (RoomD r'), .fz (.int m), .fz (boD b), x6] ∧ HandD h ∧ VL b ∧ (depL b : Int) ≤ m ∧ (eaL b : Int) ≤ lo ∧ most - r' = (nnL b : Int) ∧ -m ≤ r' ∧ b.length ≤ 8) ?_ ?_
  · walk_at "go"
    refine call_by (draw_ok hh1 (by omega) (by omega)) ?_
    rintro d bs ⟨q, h2, rfl, rfl, hh2, q0, q1⟩
    obtain ⟨c, rfl⟩ := Int.eq_ofNat_of_zero_le q0
    have hr := hr1 (n := c) (by omega)
    walk_at "go hr"
    refine for_rng (fun i E => ∃ h b r' x6, E = [.bor k h, .fz p, .fz (.int most), .fz (.int lo), .own (RoomD r'), .fz (.int m), .fz (boD b), x6] ∧ HandD h ∧ VL b ∧ (depL b : Int) ≤ m ∧ (eaL b : Int) ≤ lo ∧ most - r' = (nnL b : Int) ∧ -m ≤ r' ∧ b.length ≤ i) ⟨h2, [], most, _, rfl, hh2, trivial, by simp only [depL]; omega, by simp only [eaL]; omega, by simp only [nnL]; omega, by omega, Nat.le_refl _⟩ ?_ ?_
    · rintro i E hi ⟨h3, b, r2, x6, rfl, hh3, hv, hd, he, hnn, g2, hbl⟩
      walk_at "tgt"
      by_cases c1 : 0 < r2
      · have b1 : decide (0 < r2) = true := decide_eq_true c1
        walk_at "go b1"
        refine call_by ((sb_ok 45).1 m lo r2 (by omega) (by omega) (by omega) hlo (by omega) h3 p 0 2 hh3 hp) ?_
        rintro d bs ⟨h4, s, r3, rfl, rfl, hh4, vs, ds, es, ns, gs⟩
        have hl : (b.map St.d).length + 1 ≤ sizeLine := sl16 (by rw [List.length_map]; omega)
        walk_at "go l1 hl"
        obtain ⟨o1, o2, o3, o4⟩ := one_st s
        exact ⟨h4, b ++ [s], r3, _, by rw [boD_snoc], hh4, vl_app _ _ hv (o4 vs), by rw [dep_app, o2]; omega, by rw [ea_app, o3]; omega, by rw [nn_app, o1]; omega, gs, by rw [List.length_append, List.length_singleton]; omega⟩
      · have b1 : decide (0 < r2) = false := decide_eq_false c1
        walk_at "go b1"
        exact ⟨h3, b, r2, _, rfl, hh3, hv, hd, he, hnn, g2, by omega⟩
    · rintro E ⟨h3, b, r2, x6, rfl, hh3, hv, hd, he, hnn, g2, hbl⟩
      walk_at "go nxK_nx"
      exact ⟨h3, b, r2, _, rfl, hh3, hv, hd, he, hnn, g2, by omega⟩
  rintro E ⟨h2, b, r2, x6, rfl, hh2, hv, hd, he, hnn, g2, hbl⟩
  refine seq_cut (fun E => ∃ h b r' x6, E = [.bor k h, .fz p, .fz (.int most), .fz (.int lo), .own (RoomD r'), .fz (.int m), .fz (boD b), x6] ∧ HandD h ∧ PV b) ?_ ?_
  · walk_at "go"
    refine call_by (draw_ok hh2 (by omega) (by omega)) ?_
    rintro d bs ⟨q, h3, rfl, rfl, hh3, q0, q1⟩
    by_cases c1 : 0 < q
    · have b1 : decide (0 < q) = true := decide_eq_true c1
      walk_at "go b1"
      refine call_by (e_ok 25 (m - 1) r2 (by omega) (by omega) h3 p 0 2 hh3 hp) ?_
      rintro d bs ⟨h4, x, r3, rfl, rfl, hh4, v4, d4, n4, f4, g4⟩
      have hl : (b.map St.d).length + 1 ≤ sizeLine := sl16 (by rw [List.length_map]; omega)
      walk_at "go l1 l2 hl"
      obtain ⟨o1, o2, o3, o4⟩ := one_st (.say x)
      have z : -22 ≤ r3 := by
        by_cases y : 1 ≤ r2
        · have := g4 y; omega
        · have := f4 (by omega); omega
      refine ⟨h4, b ++ [.say x], r3, x6, by rw [boD_snoc, St.d], hh4, ⟨vl_app _ _ hv (o4 (by rw [St.V]; exact v4)), ?_, ?_, ?_⟩⟩
      · rw [dep_app, o2, St.dep]; omega
      · rw [ea_app, o3]; simp only [St.ea]; omega
      · rw [nn_app, o1, St.nn]; omega
    · have b1 : decide (0 < q) = false := decide_eq_false c1
      walk_at "go b1"
      exact ⟨h3, b, r2, x6, rfl, hh3, ⟨hv, by omega, by omega, by omega⟩⟩
  rintro E ⟨h3, b, r3, x7, rfl, hh3, pv⟩
  walk_at "go"
  exact ⟨h3, b, rfl, rfl, hh3, pv⟩

/-! ## rows and long words -/
theorem row_ok {h p : D} {k : Nat} {lo : Int} (hh : HandD h) (hp : PoolD p) : wpF (sem__law_row [.bor k h, .fz p, .fz (.int lo)]) (fun d bs => ∃ h' row, d = rowD row ∧ RowOk row ∧ bs = [.bor k h', .no, .no] ∧ HandD h') := by
  have l2 : (2 : Nat) ≤ sizeLine := sn (by omega)
  have hr20 : itR [.int 20] = some (rangeD 0 20) := itR_nat (n := 20) (by omega)
  have hr10 : itR [.int 10] = some (rangeD 0 10) := itR_nat (n := 10) (by omega)
  refine fn_run ?_
  unfold body__law_row
  refine seq_cut (fun E => ∃ h' q, E = [.bor k h', .fz p, .fz (.int lo), .fz (.int q), .no] ∧ HandD h' ∧ 0 ≤ q ∧ q < 30) ?_ ?_
  · walk_at "go"
    refine call_by (draw_ok hh (by omega) (by omega)) ?_
    rintro d bs ⟨q, h', rfl, rfl, hh', q0, q1⟩
    walk_at "go"
    exact ⟨h', q, rfl, hh', q0, q1⟩
  rintro E ⟨h1, q, rfl, hh1, q0, q1⟩
  refine seq_cutR (fun E => E = [.bor k h1, .fz p, .fz (.int lo), .fz (.int q), .no]) ?_ ?_
  · by_cases c : q = 0
    · have b : (q == 0) = true := by rw [c]; rfl
      walk_at "go b hr20"
      refine lc_rng (sl16 (by omega)) (fun i acc E => ∃ h ws, acc = ws.map D.str ∧ E = [.bor k h, .fz p, .fz (.int lo), .fz (.int q), .no] ∧ HandD h ∧ ws.length = i ∧ ∀ w, w ∈ ws → Wd w) ⟨h1, [], rfl, rfl, hh1, rfl, by simp⟩ ?_ ?_
      · rintro i acc E hi ⟨h, ws, rfl, rfl, hh, hl, hs⟩
        walk_at "go "
        refine call_by (pickW_ok hh hp) ?_
        rintro d bs ⟨h3, w, rfl, ww, rfl, hh3⟩
        walk_at "go"
        refine ⟨h3, ws ++ [w], by simp, rfl, hh3, by simp [hl], fun x hx => ?_⟩
        rcases List.mem_append.mp hx with h | h
        · exact hs x h
        · cases List.mem_singleton.mp h; exact ww
      · rintro acc E2 ⟨h, ws, rfl, rfl, hh, hl, hs⟩
        walk_at "go nqK_rt"
        exact ⟨h, ws, rfl, ⟨by omega, hs⟩, rfl, hh⟩
    · have b : (q == 0) = false := beq_eq_false_iff_ne.mpr c
      walk_at "go b nqK_nx"
  rintro E rfl
  refine seq_cutR (fun E => E = [.bor k h1, .fz p, .fz (.int lo), .fz (.int q), .no]) ?_ ?_
  · by_cases c : q = 1
    · have b : (q == 1) = true := by rw [c]; rfl
      by_cases c2 : lo < 2
      · have b2 : decide (lo < 2) = true := decide_eq_true c2
        walk_at "go b b2 hr10"
        refine lc_rng (sl16 (by omega)) (fun i acc E => ∃ h ws, acc = ws.map D.str ∧ E = [.bor k h, .fz p, .fz (.int lo), .fz (.int q), .no] ∧ HandD h ∧ ws.length = i ∧ ∀ w, w ∈ ws → Wd w) ⟨h1, [], rfl, rfl, hh1, rfl, by simp⟩ ?_ ?_
        · rintro i acc E hi ⟨h, ws, rfl, rfl, hh, hl, hs⟩
          walk_at "go "
          refine call_by (pickW_ok hh hp) ?_
          rintro d bs ⟨h3, w, rfl, ww, rfl, hh3⟩
          walk_at "go"
          refine ⟨h3, ws ++ [w], by simp, rfl, hh3, by simp [hl], fun x hx => ?_⟩
          rcases List.mem_append.mp hx with h | h
          · exact hs x h
          · cases List.mem_singleton.mp h; exact ww
        · rintro acc E2 ⟨h, ws, rfl, rfl, hh, hl, hs⟩
          walk_at "go l2"
          refine call_by (draw_ok hh (by omega) (by omega)) ?_
          rintro d bs ⟨z, h4, rfl, rfl, hh4, z0, z1⟩
          have hz : ∃ m : Int, atI [D.int 39, .int 40] z = some (.int m) ∧ 39 ≤ m ∧ m ≤ 40 := by
            rcases (show z = 0 ∨ z = 1 by omega) with rfl | rfl
            · exact ⟨39, rfl, by omega, by omega⟩
            · exact ⟨40, rfl, by omega, by omega⟩
          obtain ⟨m, hz, m0, m1⟩ := hz
          have hne : ws.map D.str ≠ [] := fun e => by
            have := congrArg List.length e
            rw [List.length_map, List.length_nil] at this; omega
          have hm := mulA_t (xs := ws.map D.str) (k := m) hne (by omega) (by omega) (by rw [List.length_map]; omega)
          walk_at "go hz hm nqK_rt"
          refine ⟨h4, (List.replicate m.toNat ws).flatten, ?_, ⟨?_, fun w hw => ?_⟩, rfl, hh4⟩
          · show _ = D.tup (((List.replicate m.toNat ws).flatten).map D.str)
            rw [List.map_flatten, List.map_replicate]
          · rw [List.length_flatten, List.map_replicate, List.sum_replicate_nat, hl]; omega
          · obtain ⟨l, hl2, hw⟩ := List.mem_flatten.mp hw
            rw [List.mem_replicate] at hl2
            rw [hl2.2] at hw
            exact hs w hw
      · have b2 : decide (lo < 2) = false := decide_eq_false c2
        walk_at "go b b2 nqK_nx"
    · have b : (q == 1) = false := beq_eq_false_iff_ne.mpr c
      walk_at "go b nqK_nx"
  rintro E rfl
  walk_at "go"
  refine call_by (draw_ok hh1 (by omega) (by omega)) ?_
  rintro d bs ⟨z, h2, rfl, rfl, hh2, z0, z1⟩
  obtain ⟨c, rfl⟩ := Int.eq_ofNat_of_zero_le z0
  have hr := itR_nat (n := c) (by omega)
  walk_at "go hr"
  refine lc_rng (sl16 (by omega)) (fun i acc E => ∃ h ws, acc = ws.map D.str ∧ E = [.bor k h, .fz p, .fz (.int lo), .fz (.int q), .no] ∧ HandD h ∧ ws.length = i ∧ ∀ w, w ∈ ws → Wd w) ⟨h2, [], rfl, rfl, hh2, rfl, by simp⟩ ?_ ?_
  · rintro i acc E hi ⟨h, ws, rfl, rfl, hh, hl, hs⟩
    walk_at "go "
    refine call_by (pickW_ok hh hp) ?_
    rintro d bs ⟨h3, w, rfl, ww, rfl, hh3⟩
    walk_at "go"
    refine ⟨h3, ws ++ [w], by simp, rfl, hh3, by simp [hl], fun x hx => ?_⟩
    rcases List.mem_append.mp hx with h | h
    · exact hs x h
    · cases List.mem_singleton.mp h; exact ww
  · rintro acc E2 ⟨h, ws, rfl, rfl, hh, hl, hs⟩
    walk_at "go"
    exact ⟨h, ws, rfl, ⟨by omega, hs⟩, rfl, hh⟩
theorem long_ok {h : D} {k : Nat} (hh : HandD h) : wpF (sem__law_long [.bor k h]) (fun d bs => ∃ h' s, d = .str s ∧ Wd s ∧ bs = [.bor k h'] ∧ HandD h') := by
  have e1 := e_signs
  have l3 : (3 : Nat) ≤ sizeLine := sn (by omega)
  have l10 : (10 : Nat) ≤ sizeLine := sn (by omega)
  refine fn_run ?_
  unfold body__law_long
  refine seq_cut (fun E => ∃ h' q, E = [.bor k h', .fz (.int q), .no] ∧ HandD h' ∧ 0 ≤ q ∧ q ≤ 40) ?_ ?_
  · walk_at "go l10"
    refine call_by (pick_of (P := fun d => ∃ m : Int, d = .int m ∧ 0 ≤ m ∧ m ≤ 40) hh (by simp) (by simp) fun d hd => ?_) ?_
    · simp only [List.mem_cons, List.not_mem_nil, or_false] at hd
      rcases hd with rfl | rfl | rfl | rfl | rfl | rfl | rfl | rfl | rfl | rfl
      all_goals exact ⟨_, rfl, by omega, by omega⟩
    rintro d bs ⟨h', ⟨m, rfl, m3, m20⟩, rfl, hh'⟩
    walk_at "go"
    exact ⟨h', m, rfl, hh', m3, m20⟩
  rintro E ⟨h1, q, rfl, hh1, q0, q1⟩
  refine seq_cut (fun E => ∃ h' c, E = [.bor k h', .fz (.int q), .fz (.str ⟨#[c]⟩)] ∧ HandD h' ∧ 32 ≤ c ∧ c ≤ 126) ?_ ?_
  · walk_at "go e1"
    refine call_by (pickS_ok hh1 sg_len.1 (by have := sg_len.2; omega)) ?_
    rintro d bs ⟨h2, c, rfl, hc, rfl, hh2⟩
    walk_at "go"
    exact ⟨h2, c, rfl, hh2, sg_ok c hc⟩
  rintro E ⟨h2, c, rfl, hh2, c0, c1⟩
  by_cases hq : 0 < q
  · have b : decide (0 < q) = true := decide_eq_true hq
    have hm := mulA_s (z := (⟨#[c]⟩ : Str)) (n := q - 1) (by omega) (by omega) (by rw [one_len]; exact sl16 (by omega))
    walk_at "go b hm l3"
    refine call_by (pick_of (P := fun d => ∃ x : Nat, d = .str ⟨#[x]⟩ ∧ 32 ≤ x ∧ x ≤ 126) hh2 (by simp) (by simp) fun d hd => ?_) ?_
    · simp only [List.mem_cons, List.not_mem_nil, or_false] at hd
      rcases hd with rfl | rfl | rfl
      · exact ⟨c, rfl, c0, c1⟩
      · exact ⟨97, rfl, by omega, by omega⟩
      · exact ⟨98, rfl, by omega, by omega⟩
    rintro d bs ⟨h3, ⟨x, rfl, x0, x1⟩, rfl, hh3⟩
    have lr : (repS (⟨#[c]⟩ : Str) (q - 1)).length = (q - 1).toNat := by rw [rep_len, one_len]; omega
    have a2 : (repS (⟨#[c]⟩ : Str) (q - 1)).length + (⟨#[x]⟩ : Str).length ≤ sizeLine := sl16 (by rw [lr, one_len]; omega)
    walk_at "go"
    refine ⟨h3, _, rfl, wd_of (by rw [app_len, lr, one_len]; omega) (fun y hy => ?_), rfl, hh3⟩
    rw [app_list] at hy
    rcases List.mem_append.mp hy with hy | hy
    · have := rep_mem hy
      cases List.mem_singleton.mp this; exact ⟨c0, c1⟩
    · cases List.mem_singleton.mp hy; exact ⟨x0, x1⟩
  · have b : decide (0 < q) = false := decide_eq_false hq
    walk_at "go b"
    exact ⟨h2, _, rfl, wd_nil, rfl, hh2⟩

/-! ## small programs -/
def Sm (n : Nat) (x : Ex) : Prop := x.V ∧ x.dep ≤ n ∧ x.nn ≤ n
def SomeD (p : D) : Prop := ∃ xs : List Ex, p = .lst (xs.map Ex.d) ∧ 0 < xs.length ∧ xs.length ≤ 1000 ∧ ∀ x, x ∈ xs → Sm 1 x
theorem pickE_ok {h p : D} {k : Nat} (hh : HandD h) (hp : SomeD p) : wpF (sem__law_pick [.bor k h, .fz p]) (fun d bs => ∃ h' x, d = Ex.d x ∧ Sm 1 x ∧ bs = [.bor k h', .no] ∧ HandD h') := by
  obtain ⟨ws, rfl, h0, h1, hw⟩ := hp
  refine wpF_imp (pick_of (P := fun d => ∃ x, d = Ex.d x ∧ Sm 1 x) hh (by rw [List.length_map]; exact h0) (by rw [List.length_map]; omega) fun d hd => ?_) ?_
  · obtain ⟨w, hm, rfl⟩ := List.mem_map.mp hd
    exact ⟨w, rfl, hw w hm⟩
  · rintro d bs ⟨h', ⟨w, rfl, ww⟩, rfl, hh'⟩
    exact ⟨h', w, rfl, ww, rfl, hh'⟩
theorem Sm.up {n m : Nat} {x : Ex} (h : Sm n x) (hm : n ≤ m) : Sm m x := ⟨h.1, Nat.le_trans h.2.1 hm, Nat.le_trans h.2.2 hm⟩
theorem Sm.join {n m : Nat} {x y : Ex} (h : Sm n x) (k : Sm m y) : Sm (n + m + 1) (.join x y) := by
  obtain ⟨a, b, c⟩ := h
  obtain ⟨a2, b2, c2⟩ := k
  exact ⟨⟨a, a2⟩, by rw [Ex.dep]; omega, by rw [Ex.nn]; omega⟩
theorem Sm.turn {n : Nat} {x : Ex} (h : Sm n x) : Sm (n + 1) (.turn x) := ⟨h.1, by rw [Ex.dep]; have := h.2.1; omega, by rw [Ex.nn]; have := h.2.2; omega⟩
theorem Sm.rest {n : Nat} {x : Ex} (h : Sm n x) : Sm (n + 1) (.rest x) := ⟨h.1, by rw [Ex.dep]; have := h.2.1; omega, by rw [Ex.nn]; have := h.2.2; omega⟩
theorem Sm.first {n : Nat} {x : Ex} (h : Sm n x) : Sm (n + 1) (.first x) := ⟨h.1, by rw [Ex.dep]; have := h.2.1; omega, by rw [Ex.nn]; have := h.2.2; omega⟩
theorem wd_n : Wd "n" := by decide +kernel
theorem nm_x : Nm "x" := by decide +kernel
def Sc (n : Nat) (c : Cn) : Prop := c.V ∧ c.dep ≤ n ∧ c.nn ≤ n
theorem words_some {ws : List Str} (h1 : ws.length ≤ 900) (hw : ∀ w, w ∈ ws → Wd w) : SomeD (.lst ([D.tup [.str "last"], .tup [.str "name", .str "x"], .tup [.str "many"]] ++ ws.map fun w => D.tup [.str "text", .str w])) := by
  refine ⟨[.last, .name "x", .many] ++ ws.map Ex.text, ?_, by simp, by simp; omega, fun x hx => ?_⟩
  · rw [List.map_append, List.map_map]; rfl
  · rcases List.mem_append.mp hx with hx | hx
    · simp only [List.mem_cons, List.not_mem_nil, or_false] at hx
      rcases hx with rfl | rfl | rfl
      · exact ⟨trivial, Nat.le_refl _, Nat.le_refl _⟩
      · exact ⟨nm_x, Nat.le_refl _, Nat.le_refl _⟩
      · exact ⟨trivial, Nat.le_refl _, Nat.le_refl _⟩
    · obtain ⟨w, hm, rfl⟩ := List.mem_map.mp hx
      exact ⟨hw w hm, Nat.le_refl _, Nat.le_refl _⟩
theorem pv0 {x y : Ex} (hx : Sm 9 x) (hy : Sm 9 y) : PV [.lt "x" y, .say x] := by
  obtain ⟨a, b, c⟩ := hx; obtain ⟨a2, b2, c2⟩ := hy
  exact ⟨by simp only [VL, St.V, and_true]; exact ⟨⟨nm_x, a2⟩, a⟩, by simp only [depL, St.dep]; omega, by simp only [eaL, St.ea]; omega, by simp only [nnL, St.nn]; omega⟩
theorem pv1 {c : Cn} {x : Ex} (hc : Sc 30 c) (hd : c.dep ≤ 12) (hx : Sm 9 x) : PV [.each "x" [.cond c [.say (.name "x")] []], .say (.join (.text "n") x)] := by
  obtain ⟨a, b, k⟩ := hc; obtain ⟨a2, b2, k2⟩ := hx
  exact ⟨by simp only [VL, St.V, and_true, Ex.V]; exact ⟨⟨nm_x, a, nm_x⟩, wd_n, a2⟩, by simp only [depL, St.dep, Ex.dep]; omega, by simp only [eaL, St.ea]; omega, by simp only [nnL, St.nn, Ex.nn]; omega⟩
theorem pv2 {c : Cn} {x : Ex} (hc : Sc 30 c) (hd : c.dep ≤ 12) (hx : Sm 9 x) : PV [.cond c [.say x] [.say (.join (.text "n") .last)]] := by
  obtain ⟨a, b, k⟩ := hc; obtain ⟨a2, b2, k2⟩ := hx
  exact ⟨by simp only [VL, St.V, and_true, Ex.V]; exact ⟨a, a2, wd_n⟩, by simp only [depL, St.dep, Ex.dep]; omega, by simp only [eaL, St.ea]; omega, by simp only [nnL, St.nn, Ex.nn]; omega⟩
theorem pv3 {c : Cn} {x : Ex} {w : Str} (hc : Sc 30 c) (hd : c.dep ≤ 12) (hx : Sm 9 x) (hw : Wd w) : PV [.lt "x" (.text w), .cond c [.say x] [.say (.join (.text "n") .last)]] := by
  obtain ⟨a, b, k⟩ := hc; obtain ⟨a2, b2, k2⟩ := hx
  exact ⟨by simp only [VL, St.V, and_true, Ex.V]; exact ⟨⟨nm_x, hw⟩, a, a2, wd_n⟩, by simp only [depL, St.dep, Ex.dep]; omega, by simp only [eaL, St.ea]; omega, by simp only [nnL, St.nn, Ex.nn]; omega⟩
theorem small_ok {h : D} {k : Nat} {w0 : Str} {wr : List Str} (hh : HandD h) (h1 : wr.length ≤ 20) (hw : ∀ w, w ∈ w0 :: wr → Wd w) :
    wpF (sem__law_small [.bor k h, .fz (.lst ((w0 :: wr).map .str))]) (fun d bs => ∃ h' b, d = boD b ∧ PV b ∧ bs = [.bor k h', .no] ∧ HandD h') := by
  have l0 : (0 : Nat) ≤ sizeLine := Nat.zero_le _
  have l1 : (1 : Nat) ≤ sizeLine := sn (by omega)
  have l2 : (2 : Nat) ≤ sizeLine := sn (by omega)
  have l3 : (3 : Nat) ≤ sizeLine := sn (by omega)
  have l4 : (4 : Nat) ≤ sizeLine := sn (by omega)
  have lw : (w0 :: wr).length ≤ sizeLine := sl16 (by rw [List.length_cons]; omega)
  have hit : itAny (.lst ((w0 :: wr).map D.str)) = some ((w0 :: wr).map D.str) := rfl
  have hsome := words_some (ws := w0 :: wr) (by rw [List.length_cons]; omega) hw
  refine fn_run ?_
  unfold body__law_small
  refine seq_cut (fun E => ∃ p, E = [.bor k h, .fz (.lst ((w0 :: wr).map .str)), .fz p, .no, .no, .no, .no, .no, .no, .no] ∧ SomeD p) ?_ ?_
  · generalize hws : w0 :: wr = ws at *
    walk_at "go l1 l2 l3 hit"
    refine lc_fun lw (fun w => .tup [.str "text", .str w]) (fun w _ => ?_) ?_
    · walk_at "go l2"
    · have hl : [D.tup [D.str (Str.ofString "last")], D.tup [D.str (Str.ofString "name"), D.str (Str.ofString "x")], D.tup [D.str (Str.ofString "many")]].length + (ws.map fun w => D.tup [D.str (Str.ofString "text"), D.str w]).length ≤ sizeLine := sl16 (by
        rw [List.length_map, ← hws, List.length_cons]; simp; omega)
      walk_at "go"
      all_goals first
        | exact ⟨_, rfl, hsome⟩
        | exact ⟨hl, _, rfl, hsome⟩
        | exact ⟨by simpa using hl, _, rfl, hsome⟩
  rintro E ⟨p, rfl, hp⟩
  refine seq_cut (fun E => ∃ h x y, E = [.bor k h, .fz (.lst ((w0 :: wr).map .str)), .fz p, .fz (Ex.d x), .fz (Ex.d y), .no, .no, .no, .no, .no] ∧ HandD h ∧ Sm 1 x ∧ Sm 1 y) ?_ ?_
  · walk_at "go"
    refine call_by (pickE_ok hh hp) ?_
    rintro d bs ⟨h2, x, rfl, sx, rfl, hh2⟩
    walk_at "go"
    refine call_by (pickE_ok hh2 hp) ?_
    rintro d bs ⟨h3, y, rfl, sy, rfl, hh3⟩
    walk_at "go"
    exact ⟨h3, x, y, rfl, hh3, sx, sy⟩
  rintro E ⟨h1, x, y, rfl, hh1, sx, sy⟩
  refine seq_cut (fun E => ∃ h q, E = [.bor k h, .fz (.lst ((w0 :: wr).map .str)), .fz p, .fz (Ex.d x), .fz (Ex.d y), .fz (.int q), .no, .no, .no, .no] ∧ HandD h ∧ 0 ≤ q ∧ q < 6) ?_ ?_
  · walk_at "go"
    refine call_by (draw_ok hh1 (by omega) (by omega)) ?_
    rintro d bs ⟨q, h2, rfl, rfl, hh2, q0, q1⟩
    walk_at "go"
    exact ⟨h2, q, rfl, hh2, q0, q1⟩
  rintro E ⟨h2, q, rfl, hh2, q0, q1⟩
  refine seq_cut (fun E => ∃ h x, E = [.bor k h, .fz (.lst ((w0 :: wr).map .str)), .fz p, .fz (Ex.d x), .fz (Ex.d y), .fz (.int q), .no, .no, .no, .no] ∧ HandD h ∧ Sm 9 x) ?_ ?_
  · rcases (show q = 0 ∨ q = 1 ∨ q = 2 ∨ q = 3 ∨ q = 4 ∨ q = 5 by omega) with rfl | rfl | rfl | rfl | rfl | rfl
    · walk_at "go l3"
      exact ⟨h2, .join x y, rfl, hh2, (sx.join sy).up (by omega)⟩
    · walk_at "go l3"
      refine call_by (pickE_ok hh2 hp) ?_
      rintro d bs ⟨h3, z, rfl, sz, rfl, hh3⟩
      walk_at "go l3"
      exact ⟨h3, .join (.join x y) z, rfl, hh3, ((sx.join sy).join sz).up (by omega)⟩
    · walk_at "go l2 l3"
      refine call_by (draw_ok hh2 (by omega) (by omega)) ?_
      rintro d bs ⟨r, h3, rfl, rfl, hh3, r0, r1⟩
      walk_at "go l2 l3"
      · exact ⟨h3, .join (.turn x) y, rfl, hh3, (sx.turn.join sy).up (by omega)⟩
      · exact ⟨h3, .turn x, rfl, hh3, sx.turn.up (by omega)⟩
    · walk_at "go l2 l3"
      refine call_by (draw_ok hh2 (by omega) (by omega)) ?_
      rintro d bs ⟨r, h3, rfl, rfl, hh3, r0, r1⟩
      walk_at "go l2 l3"
      · exact ⟨h3, .join (.rest x) y, rfl, hh3, (sx.rest.join sy).up (by omega)⟩
      · exact ⟨h3, .rest x, rfl, hh3, sx.rest.up (by omega)⟩
    · walk_at "go l2 l3"
      refine call_by (draw_ok hh2 (by omega) (by omega)) ?_
      rintro d bs ⟨r, h3, rfl, rfl, hh3, r0, r1⟩
      walk_at "go l2 l3"
      · exact ⟨h3, .join (.first x) y, rfl, hh3, (sx.first.join sy).up (by omega)⟩
      · exact ⟨h3, .first x, rfl, hh3, sx.first.up (by omega)⟩
    · walk_at "go"
      exact ⟨h2, x, rfl, hh2, sx.up (by omega)⟩
  rintro E ⟨h3, x, rfl, hh3, sx⟩
  refine seq_cut (fun E => ∃ h r, E = [.bor k h, .fz (.lst ((w0 :: wr).map .str)), .fz p, .fz (Ex.d x), .fz (Ex.d y), .fz (.int q), .fz (.int r), .no, .no, .no] ∧ HandD h ∧ 0 ≤ r ∧ r < 4) ?_ ?_
  · walk_at "go"
    refine call_by (draw_ok hh3 (by omega) (by omega)) ?_
    rintro d bs ⟨r, h4, rfl, rfl, hh4, r0, r1⟩
    walk_at "go"
    exact ⟨h4, r, rfl, hh4, r0, r1⟩
  rintro E ⟨h4, r, rfl, hh4, r0, r1⟩
  refine seq_cutR (fun E => E = [.bor k h4, .fz (.lst ((w0 :: wr).map .str)), .fz p, .fz (Ex.d x), .fz (Ex.d y), .fz (.int q), .fz (.int r), .no, .no, .no]) ?_ ?_
  · by_cases c : r = 0
    · subst c
      walk_at "go l2 l3 nqK_rt"
      refine ⟨h4, _, ?_, pv0 sx (sy.up (by omega)), rfl, hh4⟩
      show _ = D.tup (List.map St.d _); simp only [List.map_cons, List.map_nil, St.d]; try rfl
    · have b : (r == 0) = false := beq_eq_false_iff_ne.mpr c
      walk_at "go b nqK_nx"
  rintro E rfl
  refine seq_cut (fun E => ∃ h c, E = [.bor k h, .fz (.lst ((w0 :: wr).map .str)), .fz p, .fz (Ex.d x), .fz (Ex.d y), .fz (.int q), .fz (.int r), .fz (Cn.d c), .no, .no] ∧ HandD h ∧ Sc 20 c ∧ c.dep ≤ 11) ?_ ?_
  · walk_at "go l3"
    refine call_by (pick_of (P := fun d => d = .str "same" ∨ d = .str "ahead" ∨ d = .str "in") hh4 (by simp) (by simp) fun d hd => by simpa using hd) ?_
    rintro d bs ⟨h5, hd, rfl, hh5⟩
    walk_at "go"
    refine call_by (pickE_ok hh5 hp) ?_
    rintro d2 bs ⟨h6, z, rfl, sz, rfl, hh6⟩
    walk_at "go l3"
    obtain ⟨a, b, c⟩ := sx
    obtain ⟨a2, b2, c2⟩ := sz
    rcases hd with rfl | rfl | rfl
    · exact ⟨h6, .same x z, rfl, hh6, ⟨⟨a, a2⟩, by rw [Cn.dep]; omega, by rw [Cn.nn]; omega⟩, by rw [Cn.dep]; omega⟩
    · exact ⟨h6, .ahead x z, rfl, hh6, ⟨⟨a, a2⟩, by rw [Cn.dep]; omega, by rw [Cn.nn]; omega⟩, by rw [Cn.dep]; omega⟩
    · exact ⟨h6, .isin x z, rfl, hh6, ⟨⟨a, a2⟩, by rw [Cn.dep]; omega, by rw [Cn.nn]; omega⟩, by rw [Cn.dep]; omega⟩
  rintro E ⟨h5, c, rfl, hh5, sc, sd⟩
  refine seq_cut (fun E => ∃ h c, E = [.bor k h, .fz (.lst ((w0 :: wr).map .str)), .fz p, .fz (Ex.d x), .fz (Ex.d y), .fz (.int q), .fz (.int r), .fz (Cn.d c), .no, .no] ∧ HandD h ∧ Sc 30 c ∧ c.dep ≤ 12) ?_ ?_
  · walk_at "go l2"
    refine call_by (draw_ok hh5 (by omega) (by omega)) ?_
    rintro d bs ⟨z, h6, rfl, rfl, hh6, z0, z1⟩
    walk_at "go l2"
    · exact ⟨h6, .no c, rfl, hh6, ⟨sc.1, by rw [Cn.dep]; have := sc.2.1; omega, by rw [Cn.nn]; have := sc.2.2; omega⟩, by rw [Cn.dep]; omega⟩
    · exact ⟨h6, c, rfl, hh6, ⟨sc.1, by have := sc.2.1; omega, by have := sc.2.2; omega⟩, by omega⟩
  rintro E ⟨h6, c, rfl, hh6, sc, sd⟩
  refine seq_cutR (fun E => E = [.bor k h6, .fz (.lst ((w0 :: wr).map .str)), .fz p, .fz (Ex.d x), .fz (Ex.d y), .fz (.int q), .fz (.int r), .fz (Cn.d c), .no, .no]) ?_ ?_
  · by_cases c1 : r = 1
    · subst c1
      walk_at "go l0 l1 l2 l3 l4 nqK_rt"
      refine ⟨h6, _, ?_, pv1 sc sd sx, rfl, hh6⟩
      show _ = D.tup (List.map St.d _); simp only [List.map_cons, List.map_nil, St.d, dL]; rfl
    · have b : (r == 1) = false := beq_eq_false_iff_ne.mpr c1
      walk_at "go b nqK_nx"
  rintro E rfl
  refine seq_cut (fun E => E = [.bor k h6, .fz (.lst ((w0 :: wr).map .str)), .fz p, .fz (Ex.d x), .fz (Ex.d y), .fz (.int q), .fz (.int r), .fz (Cn.d c), .fz (boD [.cond c [.say x] [.say (.join (.text "n") .last)]]), .no]) ?_ ?_
  · walk_at "go l0 l1 l2 l3 l4"
    all_goals (simp only [List.map_cons, List.map_nil, St.d, dL]; rfl)
  rintro E rfl
  by_cases c1 : r = 2
  · subst c1
    walk_at "go"
    exact ⟨h6, _, rfl, pv2 sc sd sx, rfl, hh6⟩
  · have b : (r == 2) = false := beq_eq_false_iff_ne.mpr c1
    have gx : ((w0 :: wr).map D.str)[0]? = some (.str w0) := rfl
    have hl : [D.tup [D.str (Str.ofString "let"), D.str (Str.ofString "x"), D.tup [D.str (Str.ofString "text"), D.str w0]]].length + ([St.cond c [.say x] [.say (.join (.text "n") .last)]].map St.d).length ≤ sizeLine := sl16 (by simp)
    walk_at "go b gx l1 l2 l3"
    all_goals first
      | (refine ⟨h6, _, ?_, pv3 sc sd sx (hw w0 (by simp)), rfl, hh6⟩; show _ = D.tup (List.map St.d _); simp only [List.map_cons, List.map_nil, St.d, dL]; rfl)
      | (refine ⟨hl, h6, _, ?_, pv3 sc sd sx (hw w0 (by simp)), rfl, hh6⟩; show _ = D.tup (List.map St.d _); simp only [List.map_cons, List.map_nil, St.d, dL]; rfl)

/-! ## the law -/
theorem is_one {s : Str} (h : Wd s) : sem__law_is 50 [.fz (.str s), .fz (.str s)] = .val (.bl true) [.no, .no] := is_up (m := 0) h.ok (by omega)
theorem is_pair {s : Str} (h : Wd s) : sem__law_is 50 [.fz (.tup [.str s, .str s]), .fz (.tup [.str s, .str s])] = .val (.bl true) [.no, .no] := is_tupN (by omega) (by simp) fun x hx => by
  simp only [List.mem_cons, List.not_mem_nil, or_false] at hx
  rcases hx with rfl | rfl <;> exact is_up (m := 0) h.ok (by omega)
theorem small_right {h : D} {k : Nat} (hh : HandD h) : wpF (sem__law_is_small_right [.bor k h]) (fun d bs => ∃ h', d = .bl true ∧ bs = [.bor k h'] ∧ HandD h') := by
  have l7 : (7 : Nat) ≤ sizeLine := sn (by omega)
  have hr3 : itR [.int 3] = some (rangeD 0 3) := itR_nat (n := 3) (by omega)
  refine fn_run ?_
  unfold body__law_is_small_right
  refine seq_cut (fun E => ∃ h w0 w1 w2, E = [.bor k h, .own (.lst [.str w0, .str w1, .str w2]), .no, .no, .no, .no] ∧ HandD h ∧ Wd w0 ∧ Wd w1 ∧ Wd w2) ?_ ?_
  · walk_at "go hr3"
    refine lc_rng (sl16 (by omega)) (fun i acc E => ∃ h ws, acc = ws.map D.str ∧ E = [.bor k h, .no, .no, .no, .no, .no] ∧ HandD h ∧ ws.length = i ∧ ∀ w, w ∈ ws → Wd w) ⟨h, [], rfl, rfl, hh, rfl, by simp⟩ ?_ ?_
    · rintro i acc E hi ⟨h, ws, rfl, rfl, hh, hl, hs⟩
      walk_at "go"
      refine call_by (long_ok hh) ?_
      rintro d bs ⟨h3, w, rfl, ww, rfl, hh3⟩
      walk_at "go"
      refine ⟨h3, ws ++ [w], by simp, rfl, hh3, by simp [hl], fun x hx => ?_⟩
      rcases List.mem_append.mp hx with h | h
      · exact hs x h
      · cases List.mem_singleton.mp h; exact ww
    · rintro acc E2 ⟨h, ws, rfl, rfl, hh, hl, hs⟩
      match ws, hl, hs with
      | [a, b, c], _, hs =>
        walk_at "go List.map_cons List.map_nil"
        exact ⟨h, a, b, c, rfl, hh, hs a (by simp), hs b (by simp), hs c (by simp)⟩
  rintro E ⟨h1, w0, w1, w2, rfl, hh1, ww0, ww1, ww2⟩
  refine seq_cut (fun E => ∃ h w3, E = [.bor k h, .own (.lst [.str w0, .str w1, .str w2, .str w3]), .no, .no, .no, .no] ∧ HandD h ∧ Wd w3) ?_ ?_
  · have lz := ww0.line
    walk_at "go"
    refine call_by (draw_ok hh1 (by omega) (by omega)) ?_
    rintro d bs ⟨a, h2, rfl, rfl, hh2, a0, a1⟩
    walk_at "go lz"
    refine call_by (draw_ok hh2 (by omega) (by omega)) ?_
    rintro d bs ⟨b, h3, rfl, rfl, hh3, b0, b1⟩
    have hs := sl_wd ww0 (some a) (some ((w0.length : Int) - b))
    have happ : mAppend (.lst [.str w0, .str w1, .str w2]) [.str (cutS w0 (some a) (some ((w0.length : Int) - b)))] = some (.non, .lst [.str w0, .str w1, .str w2, .str (cutS w0 (some a) (some ((w0.length : Int) - b)))]) := by
      unfold mAppend
      exact if_pos (Nat.lt_of_lt_of_le (show (3 : Nat) < 10 by omega) (sl16 (n := 10) (by omega)))
    walk_at "go hs happ"
    exact ⟨h3, _, rfl, hh3, ww0.cut _ _⟩
  rintro E ⟨h2, w3, rfl, hh2, ww3⟩
  refine seq_cut (fun E => E = [.bor k h2, .own (.lst [.str w0, .str w1, .str w2, .str w3, .str w1]), .no, .no, .no, .no]) ?_ ?_
  · have happ : mAppend (.lst [.str w0, .str w1, .str w2, .str w3]) [.str w1] = some (.non, .lst [.str w0, .str w1, .str w2, .str w3, .str w1]) := by
      unfold mAppend
      exact if_pos (Nat.lt_of_lt_of_le (show (4 : Nat) < 10 by omega) (sl16 (n := 10) (by omega)))
    walk_at "go happ"
  rintro E rfl
  have hws : ∀ w, w ∈ w0 :: [w1, w2, w3, w1] → Wd w := fun w hw => by
    simp only [List.mem_cons, List.not_mem_nil, or_false] at hw
    rcases hw with rfl | rfl | rfl | rfl | rfl <;> assumption
  refine seq_cut (fun E => ∃ h b, E = [.bor k h, .fz (.lst [.str w0, .str w1, .str w2, .str w3, .str w1]), .fz (boD b), .no, .no, .no] ∧ HandD h ∧ PV b) ?_ ?_
  · walk_at "go"
    have hsm := small_ok (k := 0) (w0 := w0) (wr := [w1, w2, w3, w1]) hh2 (by simp) hws
    simp only [List.map_cons, List.map_nil] at hsm
    generalize sem__law_small [Sl.bor 0 h2, Sl.fz (D.lst [D.str w0, D.str w1, D.str w2, D.str w3, D.str w1])] = r at hsm ⊢
    refine (show wpF r _ from wpF_imp hsm ?_)
    rintro d bs ⟨h3, b, rfl, pv, rfl, hh3⟩
    walk_at "go"
    exact ⟨h3, b, rfl, hh3, pv⟩
  rintro E ⟨h3, b, rfl, hh3, pv⟩
  have ei := e_init (k := 0) pv
  refine seq_cut (fun E => E = [.bor k h3, .fz (.lst [.str w0, .str w1, .str w2, .str w3, .str w1]), .fz (boD b), .fz (prD b), .no, .no]) ?_ ?_
  · walk_at "go ei"
  rintro E rfl
  have hp : PoolD (.lst [.str w0, .str w1, .str w2, .str w3, .str w1]) := ⟨w0 :: [w1, w2, w3, w1], rfl, by simp, by simp, hws⟩
  refine seq_cut (fun E => ∃ h row, E = [.bor k h, .fz (.lst [.str w0, .str w1, .str w2, .str w3, .str w1]), .fz (boD b), .fz (prD b), .fz (rowD row), .no] ∧ HandD h ∧ RowOk row) ?_ ?_
  · walk_at "go l7"
    refine call_by (pick_of (P := fun d => ∃ m : Nat, d = .int (m : Nat) ∧ m ≤ 21) hh3 (by simp) (by simp) fun d hd => ?_) ?_
    · simp only [List.mem_cons, List.not_mem_nil, or_false] at hd
      rcases hd with rfl | rfl | rfl | rfl | rfl | rfl | rfl
      · exact ⟨0, rfl, by omega⟩
      · exact ⟨1, rfl, by omega⟩
      · exact ⟨2, rfl, by omega⟩
      · exact ⟨3, rfl, by omega⟩
      · exact ⟨10, rfl, by omega⟩
      · exact ⟨20, rfl, by omega⟩
      · exact ⟨21, rfl, by omega⟩
    rintro d bs ⟨h4, ⟨c, rfl, hc⟩, rfl, hh4⟩
    have hr := itR_nat (n := c) (by omega)
    walk_at "go hr"
    refine lc_rng (sl16 (by omega)) (fun i acc E => ∃ h ws, acc = ws.map D.str ∧ E = [.bor k h, .fz (.lst [.str w0, .str w1, .str w2, .str w3, .str w1]), .fz (boD b), .fz (prD b), .no, .no] ∧ HandD h ∧ ws.length = i ∧ ∀ w, w ∈ ws → Wd w) ⟨h4, [], rfl, rfl, hh4, rfl, by simp⟩ ?_ ?_
    · rintro i acc E hi ⟨h, ws, rfl, rfl, hh, hl, hs⟩
      walk_at "go "
      refine call_by (pickW_ok hh hp) ?_
      rintro d bs ⟨h3, w, rfl, ww, rfl, hh3⟩
      walk_at "go"
      refine ⟨h3, ws ++ [w], by simp, rfl, hh3, by simp [hl], fun x hx => ?_⟩
      rcases List.mem_append.mp hx with h | h
      · exact hs x h
      · cases List.mem_singleton.mp h; exact ww
    · rintro acc E2 ⟨h, ws, rfl, rfl, hh, hl, hs⟩
      walk_at "go"
      exact ⟨h, ws, rfl, hh, ⟨by omega, hs⟩⟩
  rintro E ⟨h4, row, rfl, hh4, hrow⟩
  have e1 := e_word pv.ok hrow
  have e2 := e_due pv.ok hrow
  have e3 := is_one (out_wd pv.ok hrow)
  walk_at "go e1 e2 e3 lk_wd"
  all_goals first | exact ⟨h4, rfl, hh4⟩ | exact ⟨h4, rfl, rfl, hh4⟩ | exact ⟨h4, hh4⟩
theorem main (ns : List Int) (h : ns.length ≤ 63) : ∃ bs, sem_law [.fz (.scr ns)] = .val (.bl true) bs := by
  suffices hw : wpF (sem_law [.fz (.scr ns)]) (fun d bs => d = .bl true) by
    cases hz : sem_law [.fz (.scr ns)] with
    | val d bs => rw [hz] at hw; cases (show d = _ from hw); exact ⟨bs, rfl⟩
    | new _ _ => rw [hz] at hw; exact hw.elim
    | exc _ _ _ => rw [hz] at hw; exact hw.elim
    | bad => rw [hz] at hw; exact hw.elim
  have l2 : (2 : Nat) ≤ sizeLine := sn (by omega)
  have l3 : (3 : Nat) ≤ sizeLine := sn (by omega)
  have hr12 : itR [.int 12] = some (rangeD 0 12) := itR_nat (n := 12) (by omega)
  have hr4 : itR [.int 4] = some (rangeD 0 4) := itR_nat (n := 4) (by omega)
  refine fn_run ?_
  unfold body_law
  refine seq_cut (fun E => ∃ h x2, E = [.fz (.scr ns), .own h, x2, .no, .no, .no, .no, .no, .no] ∧ HandD h) ?_ ?_
  · walk_at "go"
    refine call_byN (hand_ok h) ?_
    rintro d bs ⟨hh, rfl⟩
    walk_at "go"
    exact ⟨d, _, rfl, hh⟩
  rintro E ⟨h0, x2, rfl, hh0⟩
  refine seq_cut (fun E => ∃ h x2, E = [.fz (.scr ns), .own h, x2, .no, .no, .no, .no, .no, .no] ∧ HandD h) ?_ ?_
  · walk_at "go hr12"
    refine for_rng (fun i E => ∃ h x2, E = [.fz (.scr ns), .own h, x2, .no, .no, .no, .no, .no, .no] ∧ HandD h) ⟨h0, x2, rfl, hh0⟩ ?_ ?_
    · rintro i E hi ⟨h1, x2, rfl, hh1⟩
      walk_at "tgt"
      walk_at "go"
      refine call_by (small_right hh1) ?_
      rintro d bs ⟨h2, rfl, rfl, hh2⟩
      walk_at "go"
      exact ⟨h2, _, rfl, hh2⟩
    · rintro E ⟨h1, x2, rfl, hh1⟩
      walk_at "go nxK_nx"
      exact ⟨h1, x2, rfl, hh1⟩
  rintro E ⟨h1, x2, rfl, hh1⟩
  refine seq_cut (fun E => ∃ h x2 p, E = [.fz (.scr ns), .own h, x2, .fz p, .no, .no, .no, .no, .no] ∧ HandD h ∧ PoolD p) ?_ ?_
  · walk_at "go hr4"
    refine lc_rng (sl16 (by omega)) (fun i acc E => ∃ h ws, acc = ws.map D.str ∧ E = [.fz (.scr ns), .own h, .no, .no, .no, .no, .no, .no, .no] ∧ HandD h ∧ ws.length = i ∧ ∀ w, w ∈ ws → Wd w) ⟨h1, [], rfl, rfl, hh1, rfl, by simp⟩ ?_ ?_
    · rintro i acc E hi ⟨h, ws, rfl, rfl, hh, hl, hs⟩
      walk_at "go"
      refine call_by (word_ok hh) ?_
      rintro d bs ⟨h3, w, rfl, ww, rfl, hh3⟩
      walk_at "go"
      refine ⟨h3, ws ++ [w], by simp, rfl, hh3, by simp [hl], fun x hx => ?_⟩
      rcases List.mem_append.mp hx with h | h
      · exact hs x h
      · cases List.mem_singleton.mp h; exact ww
    · rintro acc E2 ⟨h, ws, rfl, rfl, hh, hl, hs⟩
      have hlen : (ws.map D.str).length + [D.str (Str.ofString "a"), D.str (Str.ofString "0"), D.str (Str.ofString "3")].length ≤ sizeLine := sl16 (by rw [List.length_map]; simp; omega)
      have hpool : PoolD (.lst (ws.map D.str ++ [D.str (Str.ofString "a"), D.str (Str.ofString "0"), D.str (Str.ofString "3")])) := by
        refine ⟨ws ++ (["a", "0", "3"] : List Str), by rw [List.map_append]; rfl, by simp, by simp; omega, fun w hw => ?_⟩
        rcases List.mem_append.mp hw with hw | hw
        · exact hs w hw
        · simp only [List.mem_cons, List.not_mem_nil, or_false] at hw
          rcases hw with rfl | rfl | rfl <;> decide +kernel
      walk_at "go l3"
      all_goals first
        | exact ⟨h, _, _, rfl, hh, hpool⟩
        | exact ⟨hlen, h, _, _, rfl, hh, hpool⟩
        | exact ⟨by simpa using hlen, h, _, _, rfl, hh, hpool⟩
  rintro E ⟨h2, x2, p, rfl, hh2, hp⟩
  refine seq_cut (fun E => ∃ h lo, E = [.fz (.scr ns), .own h, x2, .fz p, .fz (.int lo), .no, .no, .no, .no] ∧ HandD h ∧ 0 ≤ lo ∧ lo < 3) ?_ ?_
  · walk_at "go"
    refine call_by (draw_ok hh2 (by omega) (by omega)) ?_
    rintro d bs ⟨q, h3, rfl, rfl, hh3, q0, q1⟩
    walk_at "go"
    exact ⟨h3, q, rfl, hh3, q0, q1⟩
  rintro E ⟨h3, lo, rfl, hh3, lo0, lo1⟩
  refine seq_cut (fun E => ∃ h b, E = [.fz (.scr ns), .own h, x2, .fz p, .fz (.int lo), .fz (boD b), .no, .no, .no] ∧ HandD h ∧ PV b) ?_ ?_
  · walk_at "go"
    refine call_by (draw_ok hh3 (by omega) (by omega)) ?_
    rintro d bs ⟨q, h4, rfl, rfl, hh4, q0, q1⟩
    walk_at "go"
    refine call_by (program_ok hh4 hp (most := 10 + q) (lo := lo) (by omega) (by omega) (by omega) (by omega)) ?_
    rintro d bs ⟨h5, b, rfl, rfl, hh5, pv⟩
    walk_at "go"
    exact ⟨h5, b, rfl, hh5, pv⟩
  rintro E ⟨h4, b, rfl, hh4, pv⟩
  have ei := e_init (k := 0) pv
  refine seq_cut (fun E => E = [.fz (.scr ns), .own h4, x2, .fz p, .fz (.int lo), .fz (boD b), .fz (prD b), .no, .no]) ?_ ?_
  · walk_at "go ei"
  rintro E rfl
  have ep : sem__law_is 50 [.fz (boD b), .fz (boD b)] = .val (.bl true) [.no, .no] := is_prog pv
  refine seq_cut (fun E => E = [.fz (.scr ns), .own h4, x2, .fz p, .fz (.int lo), .fz (boD b), .fz (prD b), .no, .no]) ?_ ?_
  · walk_at "go ep lk_st"
  rintro E rfl
  refine seq_cut (fun E => ∃ h x2 x7 x8, E = [.fz (.scr ns), .own h, x2, .fz p, .fz (.int lo), .fz (boD b), .fz (prD b), x7, x8] ∧ HandD h) ?_ ?_
  · walk_at "go hr4"
    refine for_rng (fun i E => ∃ h x2 x7 x8, E = [.fz (.scr ns), .own h, x2, .fz p, .fz (.int lo), .fz (boD b), .fz (prD b), x7, x8] ∧ HandD h) ⟨h4, x2, _, _, rfl, hh4⟩ ?_ ?_
    · rintro i E hi ⟨h5, x2, x7, x8, rfl, hh5⟩
      walk_at "tgt"
      refine seq_cut (fun E => ∃ h row, E = [.fz (.scr ns), .own h, .fz (.int (i : Nat)), .fz p, .fz (.int lo), .fz (boD b), .fz (prD b), .fz (rowD row), x8] ∧ HandD h ∧ RowOk row) ?_ ?_
      · walk_at "go"
        refine call_by (row_ok hh5 hp) ?_
        rintro d bs ⟨h6, row, rfl, hrow, rfl, hh6⟩
        walk_at "go"
        exact ⟨h6, row, rfl, hh6, hrow⟩
      rintro E ⟨h6, row, rfl, hh6, hrow⟩
      have e1 := e_word pv.ok hrow
      have e2 := e_due pv.ok hrow
      have e3 := is_pair (out_wd pv.ok hrow)
      have e4 := e_asked pv.ok hrow
      walk_at "go e1 e2 e3 e4 lk_wd l2"
      exact ⟨h6, _, _, _, rfl, hh6⟩
    · rintro E ⟨h5, x2, x7, x8, rfl, hh5⟩
      walk_at "go nxK_nx"
      exact ⟨h5, x2, x7, x8, rfl, hh5⟩
  rintro E ⟨h5, x2, x7, x8, rfl, hh5⟩
  walk_at "go"

end Law

namespace Law
open PySem PySem.Spec PyProof.Rows L2 FL
theorem law_sp {K : PySem.W.Frag} {a : Adr} {H : Hp} {p : Addr} {ns : List Int} (hO : Only H) (hS : SqL K H p (ns.map V.int)) (h : ∃ bs, sem_law [.fz (.scr ns)] = .val (.bl true) bs) : spF (gm K a) 1 sem_law [.ref p] H (fun v _ => v = .bl true) fun _ _ _ => False := by
  obtain ⟨bs, e⟩ := h
  refine ⟨rfl, fun _ => 0, fun _ => none, [.fz (.scr ns)], H, ⟨Same.refl _, (fun _ _ z => nomatch z), (fun _ _ z => nomatch z), rfl, fun i d z => ?_, fun _ => 0, fun i s d z c => ?_, fun i k d z => ?_, fun i j s t d e e1 c1 _ _ _ => ?_⟩, ?_⟩
  · cases i with
    | zero => cases z; exact ⟨_, rfl, p, rfl, hS⟩
    | succ i => simp at z
  · cases i with
    | zero => cases z; cases c
    | succ i => simp at z
  · cases i with
    | zero => cases z
    | succ i => simp at z
  · cases i with
    | zero => cases e1; cases c1
    | succ i => simp at e1
  · rw [e]; exact fun v F' H' _ _ r => r
theorem all_mk {w : World} {K : PySem.W.Frag} {h : Heap} {mg : Str → Option Value} (X : K.In h) (G : h.Ns mainGlobals mg)
    {c_TalkError c_BadHouse c_Program a_is_sized a_are_signs a_is_word a_is_row a_BadHouse___init__ a_is_name a_sorts_of a_parts_of a_is_leaf_right a_within a_within_part a_is_program a_told a_is_so a_said_each a_said a_Program___init__ a_Program___eq__ a_Program_word a_asked a__law_hand a__law_draw a__law_pick a__law_is a__law_signs a__law_word a__law_name a__law_e a__law_c a__law_statement a__law_body a__law_program a__law_value a__law_is_so a__law_run a__law_due a__law_row a__law_long a__law_small a__law_is_small_right a_law : Addr}
    {od_is_sized an_is_sized : Option Addr} {sl_is_sized : Array (Option Value)} {oc_is_sized kV_is_sized dc_is_sized pm_is_sized cd_is_sized ct_is_sized : Value}
    {od_are_signs an_are_signs : Option Addr} {sl_are_signs : Array (Option Value)} {oc_are_signs kV_are_signs dc_are_signs pm_are_signs cd_are_signs ct_are_signs : Value}
    {od_is_word an_is_word : Option Addr} {sl_is_word : Array (Option Value)} {oc_is_word kV_is_word dc_is_word pm_is_word cd_is_word ct_is_word : Value}
    {od_is_row an_is_row : Option Addr} {sl_is_row : Array (Option Value)} {oc_is_row kV_is_row dc_is_row pm_is_row cd_is_row ct_is_row : Value}
    {od_BadHouse___init__ an_BadHouse___init__ : Option Addr} {sl_BadHouse___init__ : Array (Option Value)} {oc_BadHouse___init__ kV_BadHouse___init__ dc_BadHouse___init__ pm_BadHouse___init__ cd_BadHouse___init__ ct_BadHouse___init__ : Value}
    {od_is_name an_is_name : Option Addr} {sl_is_name : Array (Option Value)} {oc_is_name kV_is_name dc_is_name pm_is_name cd_is_name ct_is_name : Value}
    {od_sorts_of an_sorts_of : Option Addr} {sl_sorts_of : Array (Option Value)} {oc_sorts_of kV_sorts_of dc_sorts_of pm_sorts_of cd_sorts_of ct_sorts_of : Value}
    {od_parts_of an_parts_of : Option Addr} {sl_parts_of : Array (Option Value)} {oc_parts_of kV_parts_of dc_parts_of pm_parts_of cd_parts_of ct_parts_of : Value}
    {od_is_leaf_right an_is_leaf_right : Option Addr} {sl_is_leaf_right : Array (Option Value)} {oc_is_leaf_right kV_is_leaf_right dc_is_leaf_right pm_is_leaf_right cd_is_leaf_right ct_is_leaf_right : Value}
    {od_within an_within : Option Addr} {sl_within : Array (Option Value)} {oc_within kV_within dc_within pm_within cd_within ct_within : Value}
    {od_within_part an_within_part : Option Addr} {sl_within_part : Array (Option Value)} {oc_within_part kV_within_part dc_within_part pm_within_part cd_within_part ct_within_part : Value}
    {od_is_program an_is_program : Option Addr} {sl_is_program : Array (Option Value)} {oc_is_program kV_is_program dc_is_program pm_is_program cd_is_program ct_is_program : Value}
    {od_told an_told : Option Addr} {sl_told : Array (Option Value)} {oc_told kV_told dc_told pm_told cd_told ct_told : Value}
    {od_is_so an_is_so : Option Addr} {sl_is_so : Array (Option Value)} {oc_is_so kV_is_so dc_is_so pm_is_so cd_is_so ct_is_so : Value}
    {od_said_each an_said_each : Option Addr} {sl_said_each : Array (Option Value)} {oc_said_each kV_said_each dc_said_each pm_said_each cd_said_each ct_said_each : Value}
    {od_said an_said : Option Addr} {sl_said : Array (Option Value)} {oc_said kV_said dc_said pm_said cd_said ct_said : Value}
    {od_Program___init__ an_Program___init__ : Option Addr} {sl_Program___init__ : Array (Option Value)} {oc_Program___init__ kV_Program___init__ dc_Program___init__ pm_Program___init__ cd_Program___init__ ct_Program___init__ : Value}
    {od_Program___eq__ an_Program___eq__ : Option Addr} {sl_Program___eq__ : Array (Option Value)} {oc_Program___eq__ kV_Program___eq__ dc_Program___eq__ pm_Program___eq__ cd_Program___eq__ ct_Program___eq__ : Value}
    {od_Program_word an_Program_word : Option Addr} {sl_Program_word : Array (Option Value)} {oc_Program_word kV_Program_word dc_Program_word pm_Program_word cd_Program_word ct_Program_word : Value}
    {od_asked an_asked : Option Addr} {sl_asked : Array (Option Value)} {oc_asked kV_asked dc_asked pm_asked cd_asked ct_asked : Value}
    {od__law_hand an__law_hand : Option Addr} {sl__law_hand : Array (Option Value)} {oc__law_hand kV__law_hand dc__law_hand pm__law_hand cd__law_hand ct__law_hand : Value}
    {od__law_draw an__law_draw : Option Addr} {sl__law_draw : Array (Option Value)} {oc__law_draw kV__law_draw dc__law_draw pm__law_draw cd__law_draw ct__law_draw : Value}
    {od__law_pick an__law_pick : Option Addr} {sl__law_pick : Array (Option Value)} {oc__law_pick kV__law_pick dc__law_pick pm__law_pick cd__law_pick ct__law_pick : Value}
    {od__law_is an__law_is : Option Addr} {sl__law_is : Array (Option Value)} {oc__law_is kV__law_is dc__law_is pm__law_is cd__law_is ct__law_is : Value}
    {od__law_signs an__law_signs : Option Addr} {sl__law_signs : Array (Option Value)} {oc__law_signs kV__law_signs dc__law_signs pm__law_signs cd__law_signs ct__law_signs : Value}
    {od__law_word an__law_word : Option Addr} {sl__law_word : Array (Option Value)} {oc__law_word kV__law_word dc__law_word pm__law_word cd__law_word ct__law_word : Value}
    {od__law_name an__law_name : Option Addr} {sl__law_name : Array (Option Value)} {oc__law_name kV__law_name dc__law_name pm__law_name cd__law_name ct__law_name : Value}
    {od__law_e an__law_e : Option Addr} {sl__law_e : Array (Option Value)} {oc__law_e kV__law_e dc__law_e pm__law_e cd__law_e ct__law_e : Value}
    {od__law_c an__law_c : Option Addr} {sl__law_c : Array (Option Value)} {oc__law_c kV__law_c dc__law_c pm__law_c cd__law_c ct__law_c : Value}
    {od__law_statement an__law_statement : Option Addr} {sl__law_statement : Array (Option Value)} {oc__law_statement kV__law_statement dc__law_statement pm__law_statement cd__law_statement ct__law_statement : Value}
    {od__law_body an__law_body : Option Addr} {sl__law_body : Array (Option Value)} {oc__law_body kV__law_body dc__law_body pm__law_body cd__law_body ct__law_body : Value}
    {od__law_program an__law_program : Option Addr} {sl__law_program : Array (Option Value)} {oc__law_program kV__law_program dc__law_program pm__law_program cd__law_program ct__law_program : Value}
    {od__law_value an__law_value : Option Addr} {sl__law_value : Array (Option Value)} {oc__law_value kV__law_value dc__law_value pm__law_value cd__law_value ct__law_value : Value}
    {od__law_is_so an__law_is_so : Option Addr} {sl__law_is_so : Array (Option Value)} {oc__law_is_so kV__law_is_so dc__law_is_so pm__law_is_so cd__law_is_so ct__law_is_so : Value}
    {od__law_run an__law_run : Option Addr} {sl__law_run : Array (Option Value)} {oc__law_run kV__law_run dc__law_run pm__law_run cd__law_run ct__law_run : Value}
    {od__law_due an__law_due : Option Addr} {sl__law_due : Array (Option Value)} {oc__law_due kV__law_due dc__law_due pm__law_due cd__law_due ct__law_due : Value}
    {od__law_row an__law_row : Option Addr} {sl__law_row : Array (Option Value)} {oc__law_row kV__law_row dc__law_row pm__law_row cd__law_row ct__law_row : Value}
    {od__law_long an__law_long : Option Addr} {sl__law_long : Array (Option Value)} {oc__law_long kV__law_long dc__law_long pm__law_long cd__law_long ct__law_long : Value}
    {od__law_small an__law_small : Option Addr} {sl__law_small : Array (Option Value)} {oc__law_small kV__law_small dc__law_small pm__law_small cd__law_small ct__law_small : Value}
    {od__law_is_small_right an__law_is_small_right : Option Addr} {sl__law_is_small_right : Array (Option Value)} {oc__law_is_small_right kV__law_is_small_right dc__law_is_small_right pm__law_is_small_right cd__law_is_small_right ct__law_is_small_right : Value}
    {od_law an_law : Option Addr} {sl_law : Array (Option Value)} {oc_law kV_law dc_law pm_law cd_law ct_law : Value}
    {p_ALONE : Addr}
    {od_ALONE : Option Addr} {nn_ALONE : Nat} {sl_ALONE : Array (Option Value)} {tt_ALONE_0 : Tok} {tt_ALONE_1 : Tok} 
    {p_STATEMENTS : Addr} {nn_STATEMENTS : Nat} {tk_STATEMENTS_0 : Tok} {v_STATEMENTS_0 : Addr} {tk_STATEMENTS_1 : Tok} {v_STATEMENTS_1 : Addr} {tk_STATEMENTS_2 : Tok} {v_STATEMENTS_2 : Addr} {tk_STATEMENTS_3 : Tok} {v_STATEMENTS_3 : Addr} 
    {od_STATEMENTS_0 : Option Addr} {nn_STATEMENTS_0 : Nat} {sl_STATEMENTS_0 : Array (Option Value)} {tt_STATEMENTS_0_0 : Tok} 
    {od_STATEMENTS_1 : Option Addr} {nn_STATEMENTS_1 : Nat} {sl_STATEMENTS_1 : Array (Option Value)} {tt_STATEMENTS_1_0 : Tok} {tt_STATEMENTS_1_1 : Tok} 
    {od_STATEMENTS_2 : Option Addr} {nn_STATEMENTS_2 : Nat} {sl_STATEMENTS_2 : Array (Option Value)} {tt_STATEMENTS_2_0 : Tok} {tt_STATEMENTS_2_1 : Tok} {tt_STATEMENTS_2_2 : Tok} 
    {od_STATEMENTS_3 : Option Addr} {nn_STATEMENTS_3 : Nat} {sl_STATEMENTS_3 : Array (Option Value)} {tt_STATEMENTS_3_0 : Tok} {tt_STATEMENTS_3_1 : Tok} 
    {p_EXPRESSIONS : Addr} {nn_EXPRESSIONS : Nat} {tk_EXPRESSIONS_0 : Tok} {v_EXPRESSIONS_0 : Addr} {tk_EXPRESSIONS_1 : Tok} {v_EXPRESSIONS_1 : Addr} {tk_EXPRESSIONS_2 : Tok} {v_EXPRESSIONS_2 : Addr} {tk_EXPRESSIONS_3 : Tok} {v_EXPRESSIONS_3 : Addr} {tk_EXPRESSIONS_4 : Tok} {v_EXPRESSIONS_4 : Addr} {tk_EXPRESSIONS_5 : Tok} {v_EXPRESSIONS_5 : Addr} {tk_EXPRESSIONS_6 : Tok} {v_EXPRESSIONS_6 : Addr} {tk_EXPRESSIONS_7 : Tok} {v_EXPRESSIONS_7 : Addr} 
    {od_EXPRESSIONS_0 : Option Addr} {nn_EXPRESSIONS_0 : Nat} {sl_EXPRESSIONS_0 : Array (Option Value)} {tt_EXPRESSIONS_0_0 : Tok} 
    {od_EXPRESSIONS_1 : Option Addr} {nn_EXPRESSIONS_1 : Nat} {sl_EXPRESSIONS_1 : Array (Option Value)} {tt_EXPRESSIONS_1_0 : Tok} 
    {od_EXPRESSIONS_2 : Option Addr} {nn_EXPRESSIONS_2 : Nat} {sl_EXPRESSIONS_2 : Array (Option Value)} {tt_EXPRESSIONS_2_0 : Tok} {tt_EXPRESSIONS_2_1 : Tok} 
    {od_EXPRESSIONS_3 : Option Addr} {nn_EXPRESSIONS_3 : Nat} {sl_EXPRESSIONS_3 : Array (Option Value)} {tt_EXPRESSIONS_3_0 : Tok} 
    {od_EXPRESSIONS_4 : Option Addr} {nn_EXPRESSIONS_4 : Nat} {sl_EXPRESSIONS_4 : Array (Option Value)} {tt_EXPRESSIONS_4_0 : Tok} 
    {od_EXPRESSIONS_5 : Option Addr} {nn_EXPRESSIONS_5 : Nat} {sl_EXPRESSIONS_5 : Array (Option Value)} {tt_EXPRESSIONS_5_0 : Tok} 
    {od_EXPRESSIONS_6 : Option Addr} {nn_EXPRESSIONS_6 : Nat} {sl_EXPRESSIONS_6 : Array (Option Value)} 
    {od_EXPRESSIONS_7 : Option Addr} {nn_EXPRESSIONS_7 : Nat} {sl_EXPRESSIONS_7 : Array (Option Value)} 
    {p_CONDITIONS : Addr} {nn_CONDITIONS : Nat} {tk_CONDITIONS_0 : Tok} {v_CONDITIONS_0 : Addr} {tk_CONDITIONS_1 : Tok} {v_CONDITIONS_1 : Addr} {tk_CONDITIONS_2 : Tok} {v_CONDITIONS_2 : Addr} {tk_CONDITIONS_3 : Tok} {v_CONDITIONS_3 : Addr} 
    {od_CONDITIONS_0 : Option Addr} {nn_CONDITIONS_0 : Nat} {sl_CONDITIONS_0 : Array (Option Value)} {tt_CONDITIONS_0_0 : Tok} {tt_CONDITIONS_0_1 : Tok} 
    {od_CONDITIONS_1 : Option Addr} {nn_CONDITIONS_1 : Nat} {sl_CONDITIONS_1 : Array (Option Value)} {tt_CONDITIONS_1_0 : Tok} {tt_CONDITIONS_1_1 : Tok} 
    {od_CONDITIONS_2 : Option Addr} {nn_CONDITIONS_2 : Nat} {sl_CONDITIONS_2 : Array (Option Value)} {tt_CONDITIONS_2_0 : Tok} {tt_CONDITIONS_2_1 : Tok} 
    {od_CONDITIONS_3 : Option Addr} {nn_CONDITIONS_3 : Nat} {sl_CONDITIONS_3 : Array (Option Value)} {tt_CONDITIONS_3_0 : Tok} 
    {t_MOST_SIGNS t_MOST_WORDS t_MOST_DEEP t_MOST_EACH t_MOST_PARTS t_MOST_LETTERS t_LETTERS t_STATEMENT t_EXPRESSION t_CONDITION t_NAME t_WORD t_BODY : Tok}
    {nm_BadHouse q_BadHouse : Str} {N_BadHouse : Addr} {bs_BadHouse : List Value} {sn_BadHouse : List Str} {sub_BadHouse : List Value} {ab_BadHouse : Bool} {col_BadHouse : Option Bool} {dd_BadHouse : Option Addr} {k0_BadHouse k1_BadHouse k2_BadHouse k3_BadHouse k5_BadHouse : Option Value}
    (m_TalkError : PySem.W.nsIn K mainGlobals "TalkError" = some (some (.ref c_TalkError)))
    (m_BadHouse : PySem.W.nsIn K mainGlobals "BadHouse" = some (some (.ref c_BadHouse)))
    (m_Program : PySem.W.nsIn K mainGlobals "Program" = some (some (.ref c_Program)))
    (n_is_sized : PySem.W.nsIn K mainGlobals "is_sized" = some (some (.ref a_is_sized)))
    (l_is_sized : K.lookup a_is_sized = some ⟨oc_is_sized, od_is_sized, .func (PySem.W.fnOf "is_sized" "is_sized" (defArgs s_is_sized) (defBody s_is_sized) (defScope s_is_sized) .none kV_is_sized dc_is_sized pm_is_sized an_is_sized cd_is_sized ct_is_sized), sl_is_sized⟩)
    (e_is_sized : PySem.W.codeIn K cd_is_sized "is_sized" = true)
    (kk_is_sized : PySem.W.keepIn K (.ref a_is_sized) = true)
    (n_are_signs : PySem.W.nsIn K mainGlobals "are_signs" = some (some (.ref a_are_signs)))
    (l_are_signs : K.lookup a_are_signs = some ⟨oc_are_signs, od_are_signs, .func (PySem.W.fnOf "are_signs" "are_signs" (defArgs s_are_signs) (defBody s_are_signs) (defScope s_are_signs) .none kV_are_signs dc_are_signs pm_are_signs an_are_signs cd_are_signs ct_are_signs), sl_are_signs⟩)
    (e_are_signs : PySem.W.codeIn K cd_are_signs "are_signs" = true)
    (kk_are_signs : PySem.W.keepIn K (.ref a_are_signs) = true)
    (n_is_word : PySem.W.nsIn K mainGlobals "is_word" = some (some (.ref a_is_word)))
    (l_is_word : K.lookup a_is_word = some ⟨oc_is_word, od_is_word, .func (PySem.W.fnOf "is_word" "is_word" (defArgs s_is_word) (defBody s_is_word) (defScope s_is_word) .none kV_is_word dc_is_word pm_is_word an_is_word cd_is_word ct_is_word), sl_is_word⟩)
    (e_is_word : PySem.W.codeIn K cd_is_word "is_word" = true)
    (kk_is_word : PySem.W.keepIn K (.ref a_is_word) = true)
    (n_is_row : PySem.W.nsIn K mainGlobals "is_row" = some (some (.ref a_is_row)))
    (l_is_row : K.lookup a_is_row = some ⟨oc_is_row, od_is_row, .func (PySem.W.fnOf "is_row" "is_row" (defArgs s_is_row) (defBody s_is_row) (defScope s_is_row) .none kV_is_row dc_is_row pm_is_row an_is_row cd_is_row ct_is_row), sl_is_row⟩)
    (e_is_row : PySem.W.codeIn K cd_is_row "is_row" = true)
    (kk_is_row : PySem.W.keepIn K (.ref a_is_row) = true)
    (n_BadHouse___init__ : PySem.W.findIn K (.ref c_BadHouse) "__init__" = some (some (.ref a_BadHouse___init__)))
    (l_BadHouse___init__ : K.lookup a_BadHouse___init__ = some ⟨oc_BadHouse___init__, od_BadHouse___init__, .func (PySem.W.fnOf "__init__" "BadHouse.__init__" (defArgs s_BadHouse___init__) (defBody s_BadHouse___init__) (defScope s_BadHouse___init__) .none kV_BadHouse___init__ dc_BadHouse___init__ pm_BadHouse___init__ an_BadHouse___init__ cd_BadHouse___init__ ct_BadHouse___init__), sl_BadHouse___init__⟩)
    (e_BadHouse___init__ : PySem.W.codeIn K cd_BadHouse___init__ "BadHouse.__init__" = true)
    (kk_BadHouse___init__ : PySem.W.keepIn K (.ref a_BadHouse___init__) = true)
    (n_is_name : PySem.W.nsIn K mainGlobals "is_name" = some (some (.ref a_is_name)))
    (l_is_name : K.lookup a_is_name = some ⟨oc_is_name, od_is_name, .func (PySem.W.fnOf "is_name" "is_name" (defArgs s_is_name) (defBody s_is_name) (defScope s_is_name) .none kV_is_name dc_is_name pm_is_name an_is_name cd_is_name ct_is_name), sl_is_name⟩)
    (e_is_name : PySem.W.codeIn K cd_is_name "is_name" = true)
    (kk_is_name : PySem.W.keepIn K (.ref a_is_name) = true)
    (n_sorts_of : PySem.W.nsIn K mainGlobals "sorts_of" = some (some (.ref a_sorts_of)))
    (l_sorts_of : K.lookup a_sorts_of = some ⟨oc_sorts_of, od_sorts_of, .func (PySem.W.fnOf "sorts_of" "sorts_of" (defArgs s_sorts_of) (defBody s_sorts_of) (defScope s_sorts_of) .none kV_sorts_of dc_sorts_of pm_sorts_of an_sorts_of cd_sorts_of ct_sorts_of), sl_sorts_of⟩)
    (e_sorts_of : PySem.W.codeIn K cd_sorts_of "sorts_of" = true)
    (kk_sorts_of : PySem.W.keepIn K (.ref a_sorts_of) = true)
    (n_parts_of : PySem.W.nsIn K mainGlobals "parts_of" = some (some (.ref a_parts_of)))
    (l_parts_of : K.lookup a_parts_of = some ⟨oc_parts_of, od_parts_of, .func (PySem.W.fnOf "parts_of" "parts_of" (defArgs s_parts_of) (defBody s_parts_of) (defScope s_parts_of) .none kV_parts_of dc_parts_of pm_parts_of an_parts_of cd_parts_of ct_parts_of), sl_parts_of⟩)
    (e_parts_of : PySem.W.codeIn K cd_parts_of "parts_of" = true)
    (kk_parts_of : PySem.W.keepIn K (.ref a_parts_of) = true)
    (n_is_leaf_right : PySem.W.nsIn K mainGlobals "is_leaf_right" = some (some (.ref a_is_leaf_right)))
    (l_is_leaf_right : K.lookup a_is_leaf_right = some ⟨oc_is_leaf_right, od_is_leaf_right, .func (PySem.W.fnOf "is_leaf_right" "is_leaf_right" (defArgs s_is_leaf_right) (defBody s_is_leaf_right) (defScope s_is_leaf_right) .none kV_is_leaf_right dc_is_leaf_right pm_is_leaf_right an_is_leaf_right cd_is_leaf_right ct_is_leaf_right), sl_is_leaf_right⟩)
    (e_is_leaf_right : PySem.W.codeIn K cd_is_leaf_right "is_leaf_right" = true)
    (kk_is_leaf_right : PySem.W.keepIn K (.ref a_is_leaf_right) = true)
    (n_within : PySem.W.nsIn K mainGlobals "within" = some (some (.ref a_within)))
    (l_within : K.lookup a_within = some ⟨oc_within, od_within, .func (PySem.W.fnOf "within" "within" (defArgs s_within) (defBody s_within) (defScope s_within) .none kV_within dc_within pm_within an_within cd_within ct_within), sl_within⟩)
    (e_within : PySem.W.codeIn K cd_within "within" = true)
    (kk_within : PySem.W.keepIn K (.ref a_within) = true)
    (n_within_part : PySem.W.nsIn K mainGlobals "within_part" = some (some (.ref a_within_part)))
    (l_within_part : K.lookup a_within_part = some ⟨oc_within_part, od_within_part, .func (PySem.W.fnOf "within_part" "within_part" (defArgs s_within_part) (defBody s_within_part) (defScope s_within_part) .none kV_within_part dc_within_part pm_within_part an_within_part cd_within_part ct_within_part), sl_within_part⟩)
    (e_within_part : PySem.W.codeIn K cd_within_part "within_part" = true)
    (kk_within_part : PySem.W.keepIn K (.ref a_within_part) = true)
    (n_is_program : PySem.W.nsIn K mainGlobals "is_program" = some (some (.ref a_is_program)))
    (l_is_program : K.lookup a_is_program = some ⟨oc_is_program, od_is_program, .func (PySem.W.fnOf "is_program" "is_program" (defArgs s_is_program) (defBody s_is_program) (defScope s_is_program) .none kV_is_program dc_is_program pm_is_program an_is_program cd_is_program ct_is_program), sl_is_program⟩)
    (e_is_program : PySem.W.codeIn K cd_is_program "is_program" = true)
    (kk_is_program : PySem.W.keepIn K (.ref a_is_program) = true)
    (n_told : PySem.W.nsIn K mainGlobals "told" = some (some (.ref a_told)))
    (l_told : K.lookup a_told = some ⟨oc_told, od_told, .func (PySem.W.fnOf "told" "told" (defArgs s_told) (defBody s_told) (defScope s_told) .none kV_told dc_told pm_told an_told cd_told ct_told), sl_told⟩)
    (e_told : PySem.W.codeIn K cd_told "told" = true)
    (kk_told : PySem.W.keepIn K (.ref a_told) = true)
    (n_is_so : PySem.W.nsIn K mainGlobals "is_so" = some (some (.ref a_is_so)))
    (l_is_so : K.lookup a_is_so = some ⟨oc_is_so, od_is_so, .func (PySem.W.fnOf "is_so" "is_so" (defArgs s_is_so) (defBody s_is_so) (defScope s_is_so) .none kV_is_so dc_is_so pm_is_so an_is_so cd_is_so ct_is_so), sl_is_so⟩)
    (e_is_so : PySem.W.codeIn K cd_is_so "is_so" = true)
    (kk_is_so : PySem.W.keepIn K (.ref a_is_so) = true)
    (n_said_each : PySem.W.nsIn K mainGlobals "said_each" = some (some (.ref a_said_each)))
    (l_said_each : K.lookup a_said_each = some ⟨oc_said_each, od_said_each, .func (PySem.W.fnOf "said_each" "said_each" (defArgs s_said_each) (defBody s_said_each) (defScope s_said_each) .none kV_said_each dc_said_each pm_said_each an_said_each cd_said_each ct_said_each), sl_said_each⟩)
    (e_said_each : PySem.W.codeIn K cd_said_each "said_each" = true)
    (kk_said_each : PySem.W.keepIn K (.ref a_said_each) = true)
    (n_said : PySem.W.nsIn K mainGlobals "said" = some (some (.ref a_said)))
    (l_said : K.lookup a_said = some ⟨oc_said, od_said, .func (PySem.W.fnOf "said" "said" (defArgs s_said) (defBody s_said) (defScope s_said) .none kV_said dc_said pm_said an_said cd_said ct_said), sl_said⟩)
    (e_said : PySem.W.codeIn K cd_said "said" = true)
    (kk_said : PySem.W.keepIn K (.ref a_said) = true)
    (n_Program___init__ : PySem.W.findIn K (.ref c_Program) "__init__" = some (some (.ref a_Program___init__)))
    (l_Program___init__ : K.lookup a_Program___init__ = some ⟨oc_Program___init__, od_Program___init__, .func (PySem.W.fnOf "__init__" "Program.__init__" (defArgs s_Program___init__) (defBody s_Program___init__) (defScope s_Program___init__) .none kV_Program___init__ dc_Program___init__ pm_Program___init__ an_Program___init__ cd_Program___init__ ct_Program___init__), sl_Program___init__⟩)
    (e_Program___init__ : PySem.W.codeIn K cd_Program___init__ "Program.__init__" = true)
    (kk_Program___init__ : PySem.W.keepIn K (.ref a_Program___init__) = true)
    (n_Program___eq__ : PySem.W.findIn K (.ref c_Program) "__eq__" = some (some (.ref a_Program___eq__)))
    (l_Program___eq__ : K.lookup a_Program___eq__ = some ⟨oc_Program___eq__, od_Program___eq__, .func (PySem.W.fnOf "__eq__" "Program.__eq__" (defArgs s_Program___eq__) (defBody s_Program___eq__) (defScope s_Program___eq__) .none kV_Program___eq__ dc_Program___eq__ pm_Program___eq__ an_Program___eq__ cd_Program___eq__ ct_Program___eq__), sl_Program___eq__⟩)
    (e_Program___eq__ : PySem.W.codeIn K cd_Program___eq__ "Program.__eq__" = true)
    (kk_Program___eq__ : PySem.W.keepIn K (.ref a_Program___eq__) = true)
    (n_Program_word : PySem.W.findIn K (.ref c_Program) "word" = some (some (.ref a_Program_word)))
    (l_Program_word : K.lookup a_Program_word = some ⟨oc_Program_word, od_Program_word, .func (PySem.W.fnOf "word" "Program.word" (defArgs s_Program_word) (defBody s_Program_word) (defScope s_Program_word) .none kV_Program_word dc_Program_word pm_Program_word an_Program_word cd_Program_word ct_Program_word), sl_Program_word⟩)
    (e_Program_word : PySem.W.codeIn K cd_Program_word "Program.word" = true)
    (kk_Program_word : PySem.W.keepIn K (.ref a_Program_word) = true)
    (n_asked : PySem.W.nsIn K mainGlobals "asked" = some (some (.ref a_asked)))
    (l_asked : K.lookup a_asked = some ⟨oc_asked, od_asked, .func (PySem.W.fnOf "asked" "asked" (defArgs s_asked) (defBody s_asked) (defScope s_asked) .none kV_asked dc_asked pm_asked an_asked cd_asked ct_asked), sl_asked⟩)
    (e_asked : PySem.W.codeIn K cd_asked "asked" = true)
    (kk_asked : PySem.W.keepIn K (.ref a_asked) = true)
    (n__law_hand : PySem.W.nsIn K mainGlobals "_law_hand" = some (some (.ref a__law_hand)))
    (l__law_hand : K.lookup a__law_hand = some ⟨oc__law_hand, od__law_hand, .func (PySem.W.fnOf "_law_hand" "_law_hand" (defArgs s__law_hand) (defBody s__law_hand) (defScope s__law_hand) .none kV__law_hand dc__law_hand pm__law_hand an__law_hand cd__law_hand ct__law_hand), sl__law_hand⟩)
    (e__law_hand : PySem.W.codeIn K cd__law_hand "_law_hand" = true)
    (kk__law_hand : PySem.W.keepIn K (.ref a__law_hand) = true)
    (n__law_draw : PySem.W.nsIn K mainGlobals "_law_draw" = some (some (.ref a__law_draw)))
    (l__law_draw : K.lookup a__law_draw = some ⟨oc__law_draw, od__law_draw, .func (PySem.W.fnOf "_law_draw" "_law_draw" (defArgs s__law_draw) (defBody s__law_draw) (defScope s__law_draw) .none kV__law_draw dc__law_draw pm__law_draw an__law_draw cd__law_draw ct__law_draw), sl__law_draw⟩)
    (e__law_draw : PySem.W.codeIn K cd__law_draw "_law_draw" = true)
    (kk__law_draw : PySem.W.keepIn K (.ref a__law_draw) = true)
    (n__law_pick : PySem.W.nsIn K mainGlobals "_law_pick" = some (some (.ref a__law_pick)))
    (l__law_pick : K.lookup a__law_pick = some ⟨oc__law_pick, od__law_pick, .func (PySem.W.fnOf "_law_pick" "_law_pick" (defArgs s__law_pick) (defBody s__law_pick) (defScope s__law_pick) .none kV__law_pick dc__law_pick pm__law_pick an__law_pick cd__law_pick ct__law_pick), sl__law_pick⟩)
    (e__law_pick : PySem.W.codeIn K cd__law_pick "_law_pick" = true)
    (kk__law_pick : PySem.W.keepIn K (.ref a__law_pick) = true)
    (n__law_is : PySem.W.nsIn K mainGlobals "_law_is" = some (some (.ref a__law_is)))
    (l__law_is : K.lookup a__law_is = some ⟨oc__law_is, od__law_is, .func (PySem.W.fnOf "_law_is" "_law_is" (defArgs s__law_is) (defBody s__law_is) (defScope s__law_is) .none kV__law_is dc__law_is pm__law_is an__law_is cd__law_is ct__law_is), sl__law_is⟩)
    (e__law_is : PySem.W.codeIn K cd__law_is "_law_is" = true)
    (kk__law_is : PySem.W.keepIn K (.ref a__law_is) = true)
    (n__law_signs : PySem.W.nsIn K mainGlobals "_law_signs" = some (some (.ref a__law_signs)))
    (l__law_signs : K.lookup a__law_signs = some ⟨oc__law_signs, od__law_signs, .func (PySem.W.fnOf "_law_signs" "_law_signs" (defArgs s__law_signs) (defBody s__law_signs) (defScope s__law_signs) .none kV__law_signs dc__law_signs pm__law_signs an__law_signs cd__law_signs ct__law_signs), sl__law_signs⟩)
    (e__law_signs : PySem.W.codeIn K cd__law_signs "_law_signs" = true)
    (kk__law_signs : PySem.W.keepIn K (.ref a__law_signs) = true)
    (n__law_word : PySem.W.nsIn K mainGlobals "_law_word" = some (some (.ref a__law_word)))
    (l__law_word : K.lookup a__law_word = some ⟨oc__law_word, od__law_word, .func (PySem.W.fnOf "_law_word" "_law_word" (defArgs s__law_word) (defBody s__law_word) (defScope s__law_word) .none kV__law_word dc__law_word pm__law_word an__law_word cd__law_word ct__law_word), sl__law_word⟩)
    (e__law_word : PySem.W.codeIn K cd__law_word "_law_word" = true)
    (kk__law_word : PySem.W.keepIn K (.ref a__law_word) = true)
    (n__law_name : PySem.W.nsIn K mainGlobals "_law_name" = some (some (.ref a__law_name)))
    (l__law_name : K.lookup a__law_name = some ⟨oc__law_name, od__law_name, .func (PySem.W.fnOf "_law_name" "_law_name" (defArgs s__law_name) (defBody s__law_name) (defScope s__law_name) .none kV__law_name dc__law_name pm__law_name an__law_name cd__law_name ct__law_name), sl__law_name⟩)
    (e__law_name : PySem.W.codeIn K cd__law_name "_law_name" = true)
    (kk__law_name : PySem.W.keepIn K (.ref a__law_name) = true)
    (n__law_e : PySem.W.nsIn K mainGlobals "_law_e" = some (some (.ref a__law_e)))
    (l__law_e : K.lookup a__law_e = some ⟨oc__law_e, od__law_e, .func (PySem.W.fnOf "_law_e" "_law_e" (defArgs s__law_e) (defBody s__law_e) (defScope s__law_e) .none kV__law_e dc__law_e pm__law_e an__law_e cd__law_e ct__law_e), sl__law_e⟩)
    (e__law_e : PySem.W.codeIn K cd__law_e "_law_e" = true)
    (kk__law_e : PySem.W.keepIn K (.ref a__law_e) = true)
    (n__law_c : PySem.W.nsIn K mainGlobals "_law_c" = some (some (.ref a__law_c)))
    (l__law_c : K.lookup a__law_c = some ⟨oc__law_c, od__law_c, .func (PySem.W.fnOf "_law_c" "_law_c" (defArgs s__law_c) (defBody s__law_c) (defScope s__law_c) .none kV__law_c dc__law_c pm__law_c an__law_c cd__law_c ct__law_c), sl__law_c⟩)
    (e__law_c : PySem.W.codeIn K cd__law_c "_law_c" = true)
    (kk__law_c : PySem.W.keepIn K (.ref a__law_c) = true)
    (n__law_statement : PySem.W.nsIn K mainGlobals "_law_statement" = some (some (.ref a__law_statement)))
    (l__law_statement : K.lookup a__law_statement = some ⟨oc__law_statement, od__law_statement, .func (PySem.W.fnOf "_law_statement" "_law_statement" (defArgs s__law_statement) (defBody s__law_statement) (defScope s__law_statement) .none kV__law_statement dc__law_statement pm__law_statement an__law_statement cd__law_statement ct__law_statement), sl__law_statement⟩)
    (e__law_statement : PySem.W.codeIn K cd__law_statement "_law_statement" = true)
    (kk__law_statement : PySem.W.keepIn K (.ref a__law_statement) = true)
    (n__law_body : PySem.W.nsIn K mainGlobals "_law_body" = some (some (.ref a__law_body)))
    (l__law_body : K.lookup a__law_body = some ⟨oc__law_body, od__law_body, .func (PySem.W.fnOf "_law_body" "_law_body" (defArgs s__law_body) (defBody s__law_body) (defScope s__law_body) .none kV__law_body dc__law_body pm__law_body an__law_body cd__law_body ct__law_body), sl__law_body⟩)
    (e__law_body : PySem.W.codeIn K cd__law_body "_law_body" = true)
    (kk__law_body : PySem.W.keepIn K (.ref a__law_body) = true)
    (n__law_program : PySem.W.nsIn K mainGlobals "_law_program" = some (some (.ref a__law_program)))
    (l__law_program : K.lookup a__law_program = some ⟨oc__law_program, od__law_program, .func (PySem.W.fnOf "_law_program" "_law_program" (defArgs s__law_program) (defBody s__law_program) (defScope s__law_program) .none kV__law_program dc__law_program pm__law_program an__law_program cd__law_program ct__law_program), sl__law_program⟩)
    (e__law_program : PySem.W.codeIn K cd__law_program "_law_program" = true)
    (kk__law_program : PySem.W.keepIn K (.ref a__law_program) = true)
    (n__law_value : PySem.W.nsIn K mainGlobals "_law_value" = some (some (.ref a__law_value)))
    (l__law_value : K.lookup a__law_value = some ⟨oc__law_value, od__law_value, .func (PySem.W.fnOf "_law_value" "_law_value" (defArgs s__law_value) (defBody s__law_value) (defScope s__law_value) .none kV__law_value dc__law_value pm__law_value an__law_value cd__law_value ct__law_value), sl__law_value⟩)
    (e__law_value : PySem.W.codeIn K cd__law_value "_law_value" = true)
    (kk__law_value : PySem.W.keepIn K (.ref a__law_value) = true)
    (n__law_is_so : PySem.W.nsIn K mainGlobals "_law_is_so" = some (some (.ref a__law_is_so)))
    (l__law_is_so : K.lookup a__law_is_so = some ⟨oc__law_is_so, od__law_is_so, .func (PySem.W.fnOf "_law_is_so" "_law_is_so" (defArgs s__law_is_so) (defBody s__law_is_so) (defScope s__law_is_so) .none kV__law_is_so dc__law_is_so pm__law_is_so an__law_is_so cd__law_is_so ct__law_is_so), sl__law_is_so⟩)
    (e__law_is_so : PySem.W.codeIn K cd__law_is_so "_law_is_so" = true)
    (kk__law_is_so : PySem.W.keepIn K (.ref a__law_is_so) = true)
    (n__law_run : PySem.W.nsIn K mainGlobals "_law_run" = some (some (.ref a__law_run)))
    (l__law_run : K.lookup a__law_run = some ⟨oc__law_run, od__law_run, .func (PySem.W.fnOf "_law_run" "_law_run" (defArgs s__law_run) (defBody s__law_run) (defScope s__law_run) .none kV__law_run dc__law_run pm__law_run an__law_run cd__law_run ct__law_run), sl__law_run⟩)
    (e__law_run : PySem.W.codeIn K cd__law_run "_law_run" = true)
    (kk__law_run : PySem.W.keepIn K (.ref a__law_run) = true)
    (n__law_due : PySem.W.nsIn K mainGlobals "_law_due" = some (some (.ref a__law_due)))
    (l__law_due : K.lookup a__law_due = some ⟨oc__law_due, od__law_due, .func (PySem.W.fnOf "_law_due" "_law_due" (defArgs s__law_due) (defBody s__law_due) (defScope s__law_due) .none kV__law_due dc__law_due pm__law_due an__law_due cd__law_due ct__law_due), sl__law_due⟩)
    (e__law_due : PySem.W.codeIn K cd__law_due "_law_due" = true)
    (kk__law_due : PySem.W.keepIn K (.ref a__law_due) = true)
    (n__law_row : PySem.W.nsIn K mainGlobals "_law_row" = some (some (.ref a__law_row)))
    (l__law_row : K.lookup a__law_row = some ⟨oc__law_row, od__law_row, .func (PySem.W.fnOf "_law_row" "_law_row" (defArgs s__law_row) (defBody s__law_row) (defScope s__law_row) .none kV__law_row dc__law_row pm__law_row an__law_row cd__law_row ct__law_row), sl__law_row⟩)
    (e__law_row : PySem.W.codeIn K cd__law_row "_law_row" = true)
    (kk__law_row : PySem.W.keepIn K (.ref a__law_row) = true)
    (n__law_long : PySem.W.nsIn K mainGlobals "_law_long" = some (some (.ref a__law_long)))
    (l__law_long : K.lookup a__law_long = some ⟨oc__law_long, od__law_long, .func (PySem.W.fnOf "_law_long" "_law_long" (defArgs s__law_long) (defBody s__law_long) (defScope s__law_long) .none kV__law_long dc__law_long pm__law_long an__law_long cd__law_long ct__law_long), sl__law_long⟩)
    (e__law_long : PySem.W.codeIn K cd__law_long "_law_long" = true)
    (kk__law_long : PySem.W.keepIn K (.ref a__law_long) = true)
    (n__law_small : PySem.W.nsIn K mainGlobals "_law_small" = some (some (.ref a__law_small)))
    (l__law_small : K.lookup a__law_small = some ⟨oc__law_small, od__law_small, .func (PySem.W.fnOf "_law_small" "_law_small" (defArgs s__law_small) (defBody s__law_small) (defScope s__law_small) .none kV__law_small dc__law_small pm__law_small an__law_small cd__law_small ct__law_small), sl__law_small⟩)
    (e__law_small : PySem.W.codeIn K cd__law_small "_law_small" = true)
    (kk__law_small : PySem.W.keepIn K (.ref a__law_small) = true)
    (n__law_is_small_right : PySem.W.nsIn K mainGlobals "_law_is_small_right" = some (some (.ref a__law_is_small_right)))
    (l__law_is_small_right : K.lookup a__law_is_small_right = some ⟨oc__law_is_small_right, od__law_is_small_right, .func (PySem.W.fnOf "_law_is_small_right" "_law_is_small_right" (defArgs s__law_is_small_right) (defBody s__law_is_small_right) (defScope s__law_is_small_right) .none kV__law_is_small_right dc__law_is_small_right pm__law_is_small_right an__law_is_small_right cd__law_is_small_right ct__law_is_small_right), sl__law_is_small_right⟩)
    (e__law_is_small_right : PySem.W.codeIn K cd__law_is_small_right "_law_is_small_right" = true)
    (kk__law_is_small_right : PySem.W.keepIn K (.ref a__law_is_small_right) = true)
    (n_law : PySem.W.nsIn K mainGlobals "law" = some (some (.ref a_law)))
    (l_law : K.lookup a_law = some ⟨oc_law, od_law, .func (PySem.W.fnOf "law" "law" (defArgs s_law) (defBody s_law) (defScope s_law) .none kV_law dc_law pm_law an_law cd_law ct_law), sl_law⟩)
    (e_law : PySem.W.codeIn K cd_law "law" = true)
    (kk_law : PySem.W.keepIn K (.ref a_law) = true)
    (pg_Program : PySem.W.plainGet K c_Program Str.empty = true)
    (hd_Program : PySem.W.hasDictIn K c_Program = true)
    (po_Program : PySem.W.plainOver K c_Program = true)
    (sa_Program : PySem.W.findIn K (.ref c_Program) "__setattr__" = some (some (.builtin "object.__setattr__")))
    (ca_Program : PySem.W.findIn K (.ref c_Program) "__class__" = some (some (.builtin "object.__class__")))
    (cm_Program : PySem.W.mroIn K c_Program (.type "object") = some true)
    (ci_Program : PySem.W.isClsIn K c_Program = true)
    (cy_Program : PySem.W.typeIn K (.ref c_Program) = some (.type "type"))
    (nb_bool_Program : PySem.W.subIn K (.ref c_Program) (.type "bool") = some false)
    (nb_int_Program : PySem.W.subIn K (.ref c_Program) (.type "int") = some false)
    (nb_str_Program : PySem.W.subIn K (.ref c_Program) (.type "str") = some false)
    (nb_tuple_Program : PySem.W.subIn K (.ref c_Program) (.type "tuple") = some false)
    (nb_list_Program : PySem.W.subIn K (.ref c_Program) (.type "list") = some false)
    (nb_dict_Program : PySem.W.subIn K (.ref c_Program) (.type "dict") = some false)
    (mm_Program : PySem.W.makesIn K c_Program = true)
    (mf_Program : PySem.W.isFn K (.ref a_Program___init__) = true)
    (mk_Program : PySem.W.keepIn K (.ref c_Program) = true)
    (mef_Program_word : PySem.W.isFn K (.ref a_Program_word) = true)
    (ef_Program : PySem.W.isFn K (.ref a_Program___eq__) = true)
    (na_row_Program : PySem.W.findIn K (.ref c_Program) "row" = some none)
    (na_statements_Program : PySem.W.findIn K (.ref c_Program) "statements" = some none)
    (sb_TalkError : PySem.W.subIn K (.ref c_TalkError) (.type "BaseException") = some true)
    (ty_TalkError : PySem.W.typeIn K (.ref c_TalkError) = some (.type "type"))
    (hx_TalkError : PySem.W.hasDictIn K c_TalkError = true)
    (gx_TalkError : PySem.W.findIn K (.ref c_TalkError) "__getattribute__" = some (some (.builtin "BaseException.__getattribute__")))
    (gg_TalkError : PySem.W.findIn K (.ref c_TalkError) "__getattr__" = some none)
    (cx_TalkError : PySem.W.findIn K (.ref c_TalkError) "__class__" = some (some (.builtin "object.__class__")))
    (mx_TalkError : PySem.W.mroIn K c_TalkError (.type "object") = some true)
    (cix_TalkError : PySem.W.isClsIn K c_TalkError = true)
    (kx_TalkError : PySem.W.keepIn K (.ref c_TalkError) = true)
    (sb_BadHouse : PySem.W.subIn K (.ref c_BadHouse) (.type "BaseException") = some true)
    (ty_BadHouse : PySem.W.typeIn K (.ref c_BadHouse) = some (.type "type"))
    (hx_BadHouse : PySem.W.hasDictIn K c_BadHouse = true)
    (gx_BadHouse : PySem.W.findIn K (.ref c_BadHouse) "__getattribute__" = some (some (.builtin "BaseException.__getattribute__")))
    (gg_BadHouse : PySem.W.findIn K (.ref c_BadHouse) "__getattr__" = some none)
    (cx_BadHouse : PySem.W.findIn K (.ref c_BadHouse) "__class__" = some (some (.builtin "object.__class__")))
    (mx_BadHouse : PySem.W.mroIn K c_BadHouse (.type "object") = some true)
    (cix_BadHouse : PySem.W.isClsIn K c_BadHouse = true)
    (kx_BadHouse : PySem.W.keepIn K (.ref c_BadHouse) = true)
    (xl_BadHouse : K.lookup c_BadHouse = some (excClassObj nm_BadHouse q_BadHouse c_BadHouse N_BadHouse bs_BadHouse [.ref c_TalkError, .type "ValueError", .type "Exception", .type "BaseException", .type "object"] true sn_BadHouse sub_BadHouse ab_BadHouse col_BadHouse dd_BadHouse k0_BadHouse k1_BadHouse k2_BadHouse k3_BadHouse k5_BadHouse "ValueError.__new__"))
    (sxx_BadHouse : PySem.W.findIn K (.ref c_BadHouse) "__setattr__" = some (some (.builtin "object.__setattr__")))
    (nf_BadHouse : PySem.W.findIn K (.ref c_BadHouse) "row" = some none)
    (ti_BadHouse : PySem.W.typeIn K (.ref a_BadHouse___init__) = some (.type "function"))
    (cg : PySem.W.specialIn K (.builtin "object.__class__") "__get__" = some (some (.builtin "getset_descriptor.__get__")))
    (ct : PySem.W.takesIn K (.builtin "object.__class__") = some true)
    (q_MOST_SIGNS : PySem.W.nsIn K mainGlobals "MOST_SIGNS" = some (some (Value.int 40 t_MOST_SIGNS)))
    (q_MOST_WORDS : PySem.W.nsIn K mainGlobals "MOST_WORDS" = some (some (Value.int 400 t_MOST_WORDS)))
    (q_MOST_DEEP : PySem.W.nsIn K mainGlobals "MOST_DEEP" = some (some (Value.int 20 t_MOST_DEEP)))
    (q_MOST_EACH : PySem.W.nsIn K mainGlobals "MOST_EACH" = some (some (Value.int 2 t_MOST_EACH)))
    (q_MOST_PARTS : PySem.W.nsIn K mainGlobals "MOST_PARTS" = some (some (Value.int 500 t_MOST_PARTS)))
    (q_MOST_LETTERS : PySem.W.nsIn K mainGlobals "MOST_LETTERS" = some (some (Value.int 8 t_MOST_LETTERS)))
    (q_LETTERS : PySem.W.nsIn K mainGlobals "LETTERS" = some (some (Value.str "abcdefghijklmnopqrstuvwxyz" t_LETTERS)))
    (q_STATEMENT : PySem.W.nsIn K mainGlobals "STATEMENT" = some (some (Value.str "statement" t_STATEMENT)))
    (q_EXPRESSION : PySem.W.nsIn K mainGlobals "EXPRESSION" = some (some (Value.str "e" t_EXPRESSION)))
    (q_CONDITION : PySem.W.nsIn K mainGlobals "CONDITION" = some (some (Value.str "c" t_CONDITION)))
    (q_NAME : PySem.W.nsIn K mainGlobals "NAME" = some (some (Value.str "name" t_NAME)))
    (q_WORD : PySem.W.nsIn K mainGlobals "WORD" = some (some (Value.str "word" t_WORD)))
    (q_BODY : PySem.W.nsIn K mainGlobals "BODY" = some (some (Value.str "body" t_BODY)))
    (q_ALONE : PySem.W.nsIn K mainGlobals "ALONE" = some (some (.ref p_ALONE)))
    (qt_ALONE : K.lookup p_ALONE = some ⟨.type "tuple", od_ALONE, .seq #[Value.str "many" tt_ALONE_0, Value.str "last" tt_ALONE_1] nn_ALONE, sl_ALONE⟩)
    (q_STATEMENTS : PySem.W.nsIn K mainGlobals "STATEMENTS" = some (some (.ref p_STATEMENTS)))
    (ql_STATEMENTS : K.lookup p_STATEMENTS = some ⟨.type "dict", none, .dict #[⟨PyData.keyHash w.params "say", .str "say" tk_STATEMENTS_0, .ref v_STATEMENTS_0⟩, ⟨PyData.keyHash w.params "let", .str "let" tk_STATEMENTS_1, .ref v_STATEMENTS_1⟩, ⟨PyData.keyHash w.params "if", .str "if" tk_STATEMENTS_2, .ref v_STATEMENTS_2⟩, ⟨PyData.keyHash w.params "each", .str "each" tk_STATEMENTS_3, .ref v_STATEMENTS_3⟩] nn_STATEMENTS, #[]⟩)
    (qt_STATEMENTS_0 : K.lookup v_STATEMENTS_0 = some ⟨.type "tuple", od_STATEMENTS_0, .seq #[Value.str "e" tt_STATEMENTS_0_0] nn_STATEMENTS_0, sl_STATEMENTS_0⟩)
    (qt_STATEMENTS_1 : K.lookup v_STATEMENTS_1 = some ⟨.type "tuple", od_STATEMENTS_1, .seq #[Value.str "name" tt_STATEMENTS_1_0, Value.str "e" tt_STATEMENTS_1_1] nn_STATEMENTS_1, sl_STATEMENTS_1⟩)
    (qt_STATEMENTS_2 : K.lookup v_STATEMENTS_2 = some ⟨.type "tuple", od_STATEMENTS_2, .seq #[Value.str "c" tt_STATEMENTS_2_0, Value.str "body" tt_STATEMENTS_2_1, Value.str "body" tt_STATEMENTS_2_2] nn_STATEMENTS_2, sl_STATEMENTS_2⟩)
    (qt_STATEMENTS_3 : K.lookup v_STATEMENTS_3 = some ⟨.type "tuple", od_STATEMENTS_3, .seq #[Value.str "name" tt_STATEMENTS_3_0, Value.str "body" tt_STATEMENTS_3_1] nn_STATEMENTS_3, sl_STATEMENTS_3⟩)
    (qs_STATEMENTS : (p_STATEMENTS == sysModules) = false)
    (q_EXPRESSIONS : PySem.W.nsIn K mainGlobals "EXPRESSIONS" = some (some (.ref p_EXPRESSIONS)))
    (ql_EXPRESSIONS : K.lookup p_EXPRESSIONS = some ⟨.type "dict", none, .dict #[⟨PyData.keyHash w.params "text", .str "text" tk_EXPRESSIONS_0, .ref v_EXPRESSIONS_0⟩, ⟨PyData.keyHash w.params "name", .str "name" tk_EXPRESSIONS_1, .ref v_EXPRESSIONS_1⟩, ⟨PyData.keyHash w.params "join", .str "join" tk_EXPRESSIONS_2, .ref v_EXPRESSIONS_2⟩, ⟨PyData.keyHash w.params "turn", .str "turn" tk_EXPRESSIONS_3, .ref v_EXPRESSIONS_3⟩, ⟨PyData.keyHash w.params "rest", .str "rest" tk_EXPRESSIONS_4, .ref v_EXPRESSIONS_4⟩, ⟨PyData.keyHash w.params "first", .str "first" tk_EXPRESSIONS_5, .ref v_EXPRESSIONS_5⟩, ⟨PyData.keyHash w.params "many", .str "many" tk_EXPRESSIONS_6, .ref v_EXPRESSIONS_6⟩, ⟨PyData.keyHash w.params "last", .str "last" tk_EXPRESSIONS_7, .ref v_EXPRESSIONS_7⟩] nn_EXPRESSIONS, #[]⟩)
    (qt_EXPRESSIONS_0 : K.lookup v_EXPRESSIONS_0 = some ⟨.type "tuple", od_EXPRESSIONS_0, .seq #[Value.str "word" tt_EXPRESSIONS_0_0] nn_EXPRESSIONS_0, sl_EXPRESSIONS_0⟩)
    (qt_EXPRESSIONS_1 : K.lookup v_EXPRESSIONS_1 = some ⟨.type "tuple", od_EXPRESSIONS_1, .seq #[Value.str "name" tt_EXPRESSIONS_1_0] nn_EXPRESSIONS_1, sl_EXPRESSIONS_1⟩)
    (qt_EXPRESSIONS_2 : K.lookup v_EXPRESSIONS_2 = some ⟨.type "tuple", od_EXPRESSIONS_2, .seq #[Value.str "e" tt_EXPRESSIONS_2_0, Value.str "e" tt_EXPRESSIONS_2_1] nn_EXPRESSIONS_2, sl_EXPRESSIONS_2⟩)
    (qt_EXPRESSIONS_3 : K.lookup v_EXPRESSIONS_3 = some ⟨.type "tuple", od_EXPRESSIONS_3, .seq #[Value.str "e" tt_EXPRESSIONS_3_0] nn_EXPRESSIONS_3, sl_EXPRESSIONS_3⟩)
    (qt_EXPRESSIONS_4 : K.lookup v_EXPRESSIONS_4 = some ⟨.type "tuple", od_EXPRESSIONS_4, .seq #[Value.str "e" tt_EXPRESSIONS_4_0] nn_EXPRESSIONS_4, sl_EXPRESSIONS_4⟩)
    (qt_EXPRESSIONS_5 : K.lookup v_EXPRESSIONS_5 = some ⟨.type "tuple", od_EXPRESSIONS_5, .seq #[Value.str "e" tt_EXPRESSIONS_5_0] nn_EXPRESSIONS_5, sl_EXPRESSIONS_5⟩)
    (qt_EXPRESSIONS_6 : K.lookup v_EXPRESSIONS_6 = some ⟨.type "tuple", od_EXPRESSIONS_6, .seq #[] nn_EXPRESSIONS_6, sl_EXPRESSIONS_6⟩)
    (qt_EXPRESSIONS_7 : K.lookup v_EXPRESSIONS_7 = some ⟨.type "tuple", od_EXPRESSIONS_7, .seq #[] nn_EXPRESSIONS_7, sl_EXPRESSIONS_7⟩)
    (qs_EXPRESSIONS : (p_EXPRESSIONS == sysModules) = false)
    (q_CONDITIONS : PySem.W.nsIn K mainGlobals "CONDITIONS" = some (some (.ref p_CONDITIONS)))
    (ql_CONDITIONS : K.lookup p_CONDITIONS = some ⟨.type "dict", none, .dict #[⟨PyData.keyHash w.params "same", .str "same" tk_CONDITIONS_0, .ref v_CONDITIONS_0⟩, ⟨PyData.keyHash w.params "ahead", .str "ahead" tk_CONDITIONS_1, .ref v_CONDITIONS_1⟩, ⟨PyData.keyHash w.params "in", .str "in" tk_CONDITIONS_2, .ref v_CONDITIONS_2⟩, ⟨PyData.keyHash w.params "not", .str "not" tk_CONDITIONS_3, .ref v_CONDITIONS_3⟩] nn_CONDITIONS, #[]⟩)
    (qt_CONDITIONS_0 : K.lookup v_CONDITIONS_0 = some ⟨.type "tuple", od_CONDITIONS_0, .seq #[Value.str "e" tt_CONDITIONS_0_0, Value.str "e" tt_CONDITIONS_0_1] nn_CONDITIONS_0, sl_CONDITIONS_0⟩)
    (qt_CONDITIONS_1 : K.lookup v_CONDITIONS_1 = some ⟨.type "tuple", od_CONDITIONS_1, .seq #[Value.str "e" tt_CONDITIONS_1_0, Value.str "e" tt_CONDITIONS_1_1] nn_CONDITIONS_1, sl_CONDITIONS_1⟩)
    (qt_CONDITIONS_2 : K.lookup v_CONDITIONS_2 = some ⟨.type "tuple", od_CONDITIONS_2, .seq #[Value.str "e" tt_CONDITIONS_2_0, Value.str "e" tt_CONDITIONS_2_1] nn_CONDITIONS_2, sl_CONDITIONS_2⟩)
    (qt_CONDITIONS_3 : K.lookup v_CONDITIONS_3 = some ⟨.type "tuple", od_CONDITIONS_3, .seq #[Value.str "c" tt_CONDITIONS_3_0] nn_CONDITIONS_3, sl_CONDITIONS_3⟩)
    (qs_CONDITIONS : (p_CONDITIONS == sysModules) = false)
    (b_all : PySem.W.nsIn K mainGlobals "all" = some none)
    (b_bool : PySem.W.nsIn K mainGlobals "bool" = some none)
    (b_int : PySem.W.nsIn K mainGlobals "int" = some none)
    (b_isinstance : PySem.W.nsIn K mainGlobals "isinstance" = some none)
    (b_len : PySem.W.nsIn K mainGlobals "len" = some none)
    (b_list : PySem.W.nsIn K mainGlobals "list" = some none)
    (b_range : PySem.W.nsIn K mainGlobals "range" = some none)
    (b_str : PySem.W.nsIn K mainGlobals "str" = some none)
    (b_tuple : PySem.W.nsIn K mainGlobals "tuple" = some none)
    (b_zip : PySem.W.nsIn K mainGlobals "zip" = some none) :
    ∃ a : Adr, Txt w K mg a ∧ mg "law" = some (.ref a.a_law) := by
  obtain ⟨d_is_sized, F_is_sized, B_is_sized⟩ := fun_at (st := s_is_sized) (ps := ["thing", "low", "high"]) l_is_sized e_is_sized kk_is_sized (fun _ _ _ _ _ _ us hl => match us, hl with | [_, _, _], _ => rfl)
  obtain ⟨d_are_signs, F_are_signs, B_are_signs⟩ := fun_at (st := s_are_signs) (ps := ["thing"]) l_are_signs e_are_signs kk_are_signs (fun _ _ _ _ _ _ us hl => match us, hl with | [_], _ => rfl)
  obtain ⟨d_is_word, F_is_word, B_is_word⟩ := fun_at (st := s_is_word) (ps := ["thing"]) l_is_word e_is_word kk_is_word (fun _ _ _ _ _ _ us hl => match us, hl with | [_], _ => rfl)
  obtain ⟨d_is_row, F_is_row, B_is_row⟩ := fun_at (st := s_is_row) (ps := ["thing"]) l_is_row e_is_row kk_is_row (fun _ _ _ _ _ _ us hl => match us, hl with | [_], _ => rfl)
  obtain ⟨d_BadHouse___init__, F_BadHouse___init__, B_BadHouse___init__⟩ := fun_at (st := s_BadHouse___init__) (ps := ["self", "row"]) l_BadHouse___init__ e_BadHouse___init__ kk_BadHouse___init__ (fun _ _ _ _ _ _ us hl => match us, hl with | [_, _], _ => rfl)
  obtain ⟨d_is_name, F_is_name, B_is_name⟩ := fun_at (st := s_is_name) (ps := ["thing"]) l_is_name e_is_name kk_is_name (fun _ _ _ _ _ _ us hl => match us, hl with | [_], _ => rfl)
  obtain ⟨d_sorts_of, F_sorts_of, B_sorts_of⟩ := fun_at (st := s_sorts_of) (ps := ["sort", "word"]) l_sorts_of e_sorts_of kk_sorts_of (fun _ _ _ _ _ _ us hl => match us, hl with | [_, _], _ => rfl)
  obtain ⟨d_parts_of, F_parts_of, B_parts_of⟩ := fun_at (st := s_parts_of) (ps := ["sort", "thing"]) l_parts_of e_parts_of kk_parts_of (fun _ _ _ _ _ _ us hl => match us, hl with | [_, _], _ => rfl)
  obtain ⟨d_is_leaf_right, F_is_leaf_right, B_is_leaf_right⟩ := fun_at (st := s_is_leaf_right) (ps := ["sort", "thing"]) l_is_leaf_right e_is_leaf_right kk_is_leaf_right (fun _ _ _ _ _ _ us hl => match us, hl with | [_, _], _ => rfl)
  obtain ⟨d_within, F_within, B_within⟩ := fun_at (st := s_within) (ps := ["body", "deep", "eaches"]) l_within e_within kk_within (fun _ _ _ _ _ _ us hl => match us, hl with | [_, _, _], _ => rfl)
  obtain ⟨d_within_part, F_within_part, B_within_part⟩ := fun_at (st := s_within_part) (ps := ["sort", "thing", "deep", "eaches"]) l_within_part e_within_part kk_within_part (fun _ _ _ _ _ _ us hl => match us, hl with | [_, _, _, _], _ => rfl)
  obtain ⟨d_is_program, F_is_program, B_is_program⟩ := fun_at (st := s_is_program) (ps := ["statements"]) l_is_program e_is_program kk_is_program (fun _ _ _ _ _ _ us hl => match us, hl with | [_], _ => rfl)
  obtain ⟨d_told, F_told, B_told⟩ := fun_at (st := s_told) (ps := ["expression", "row", "meanings"]) l_told e_told kk_told (fun _ _ _ _ _ _ us hl => match us, hl with | [_, _, _], _ => rfl)
  obtain ⟨d_is_so, F_is_so, B_is_so⟩ := fun_at (st := s_is_so) (ps := ["condition", "row", "meanings"]) l_is_so e_is_so kk_is_so (fun _ _ _ _ _ _ us hl => match us, hl with | [_, _, _], _ => rfl)
  obtain ⟨d_said_each, F_said_each, B_said_each⟩ := fun_at (st := s_said_each) (ps := ["statement", "row", "meanings"]) l_said_each e_said_each kk_said_each (fun _ _ _ _ _ _ us hl => match us, hl with | [_, _, _], _ => rfl)
  obtain ⟨d_said, F_said, B_said⟩ := fun_at (st := s_said) (ps := ["body", "row", "meanings"]) l_said e_said kk_said (fun _ _ _ _ _ _ us hl => match us, hl with | [_, _, _], _ => rfl)
  obtain ⟨d_Program___init__, F_Program___init__, B_Program___init__⟩ := fun_at (st := s_Program___init__) (ps := ["self", "statements"]) l_Program___init__ e_Program___init__ kk_Program___init__ (fun _ _ _ _ _ _ us hl => match us, hl with | [_, _], _ => rfl)
  obtain ⟨d_Program___eq__, F_Program___eq__, B_Program___eq__⟩ := fun_at (st := s_Program___eq__) (ps := ["self", "thing"]) l_Program___eq__ e_Program___eq__ kk_Program___eq__ (fun _ _ _ _ _ _ us hl => match us, hl with | [_, _], _ => rfl)
  obtain ⟨d_Program_word, F_Program_word, B_Program_word⟩ := fun_at (st := s_Program_word) (ps := ["self", "row"]) l_Program_word e_Program_word kk_Program_word (fun _ _ _ _ _ _ us hl => match us, hl with | [_, _], _ => rfl)
  obtain ⟨d_asked, F_asked, B_asked⟩ := fun_at (st := s_asked) (ps := ["house", "row"]) l_asked e_asked kk_asked (fun _ _ _ _ _ _ us hl => match us, hl with | [_, _], _ => rfl)
  obtain ⟨d__law_hand, F__law_hand, B__law_hand⟩ := fun_at (st := s__law_hand) (ps := ["script"]) l__law_hand e__law_hand kk__law_hand (fun _ _ _ _ _ _ us hl => match us, hl with | [_], _ => rfl)
  obtain ⟨d__law_draw, F__law_draw, B__law_draw⟩ := fun_at (st := s__law_draw) (ps := ["hand", "many"]) l__law_draw e__law_draw kk__law_draw (fun _ _ _ _ _ _ us hl => match us, hl with | [_, _], _ => rfl)
  obtain ⟨d__law_pick, F__law_pick, B__law_pick⟩ := fun_at (st := s__law_pick) (ps := ["hand", "things"]) l__law_pick e__law_pick kk__law_pick (fun _ _ _ _ _ _ us hl => match us, hl with | [_, _], _ => rfl)
  obtain ⟨d__law_is, F__law_is, B__law_is⟩ := fun_at (st := s__law_is) (ps := ["told_v", "due"]) l__law_is e__law_is kk__law_is (fun _ _ _ _ _ _ us hl => match us, hl with | [_, _], _ => rfl)
  obtain ⟨d__law_signs, F__law_signs, B__law_signs⟩ := fun_at (st := s__law_signs) (ps := []) l__law_signs e__law_signs kk__law_signs (fun _ _ _ _ _ _ us hl => match us, hl with | [], _ => rfl)
  obtain ⟨d__law_word, F__law_word, B__law_word⟩ := fun_at (st := s__law_word) (ps := ["hand"]) l__law_word e__law_word kk__law_word (fun _ _ _ _ _ _ us hl => match us, hl with | [_], _ => rfl)
  obtain ⟨d__law_name, F__law_name, B__law_name⟩ := fun_at (st := s__law_name) (ps := ["hand"]) l__law_name e__law_name kk__law_name (fun _ _ _ _ _ _ us hl => match us, hl with | [_], _ => rfl)
  obtain ⟨d__law_e, F__law_e, B__law_e⟩ := fun_at (st := s__law_e) (ps := ["hand", "pool", "room", "deep"]) l__law_e e__law_e kk__law_e (fun _ _ _ _ _ _ us hl => match us, hl with | [_, _, _, _], _ => rfl)
  obtain ⟨d__law_c, F__law_c, B__law_c⟩ := fun_at (st := s__law_c) (ps := ["hand", "pool", "room", "deep"]) l__law_c e__law_c kk__law_c (fun _ _ _ _ _ _ us hl => match us, hl with | [_, _, _, _], _ => rfl)
  obtain ⟨d__law_statement, F__law_statement, B__law_statement⟩ := fun_at (st := s__law_statement) (ps := ["hand", "pool", "room", "deep", "loops"]) l__law_statement e__law_statement kk__law_statement (fun _ _ _ _ _ _ us hl => match us, hl with | [_, _, _, _, _], _ => rfl)
  obtain ⟨d__law_body, F__law_body, B__law_body⟩ := fun_at (st := s__law_body) (ps := ["hand", "pool", "room", "deep", "loops"]) l__law_body e__law_body kk__law_body (fun _ _ _ _ _ _ us hl => match us, hl with | [_, _, _, _, _], _ => rfl)
  obtain ⟨d__law_program, F__law_program, B__law_program⟩ := fun_at (st := s__law_program) (ps := ["hand", "pool", "most", "loops"]) l__law_program e__law_program kk__law_program (fun _ _ _ _ _ _ us hl => match us, hl with | [_, _, _, _], _ => rfl)
  obtain ⟨d__law_value, F__law_value, B__law_value⟩ := fun_at (st := s__law_value) (ps := ["e", "row", "names"]) l__law_value e__law_value kk__law_value (fun _ _ _ _ _ _ us hl => match us, hl with | [_, _, _], _ => rfl)
  obtain ⟨d__law_is_so, F__law_is_so, B__law_is_so⟩ := fun_at (st := s__law_is_so) (ps := ["c", "row", "names"]) l__law_is_so e__law_is_so kk__law_is_so (fun _ _ _ _ _ _ us hl => match us, hl with | [_, _, _], _ => rfl)
  obtain ⟨d__law_run, F__law_run, B__law_run⟩ := fun_at (st := s__law_run) (ps := ["statements", "row", "names"]) l__law_run e__law_run kk__law_run (fun _ _ _ _ _ _ us hl => match us, hl with | [_, _, _], _ => rfl)
  obtain ⟨d__law_due, F__law_due, B__law_due⟩ := fun_at (st := s__law_due) (ps := ["statements", "row"]) l__law_due e__law_due kk__law_due (fun _ _ _ _ _ _ us hl => match us, hl with | [_, _], _ => rfl)
  obtain ⟨d__law_row, F__law_row, B__law_row⟩ := fun_at (st := s__law_row) (ps := ["hand", "pool", "loops"]) l__law_row e__law_row kk__law_row (fun _ _ _ _ _ _ us hl => match us, hl with | [_, _, _], _ => rfl)
  obtain ⟨d__law_long, F__law_long, B__law_long⟩ := fun_at (st := s__law_long) (ps := ["hand"]) l__law_long e__law_long kk__law_long (fun _ _ _ _ _ _ us hl => match us, hl with | [_], _ => rfl)
  obtain ⟨d__law_small, F__law_small, B__law_small⟩ := fun_at (st := s__law_small) (ps := ["hand", "words"]) l__law_small e__law_small kk__law_small (fun _ _ _ _ _ _ us hl => match us, hl with | [_, _], _ => rfl)
  obtain ⟨d__law_is_small_right, F__law_is_small_right, B__law_is_small_right⟩ := fun_at (st := s__law_is_small_right) (ps := ["hand"]) l__law_is_small_right e__law_is_small_right kk__law_is_small_right (fun _ _ _ _ _ _ us hl => match us, hl with | [_], _ => rfl)
  obtain ⟨d_law, F_law, B_law⟩ := fun_at (st := s_law) (ps := ["script"]) l_law e_law kk_law (fun _ _ _ _ _ _ us hl => match us, hl with | [_], _ => rfl)
  let a : Adr := { a_is_sized := a_is_sized, d_is_sized := d_is_sized, a_are_signs := a_are_signs, d_are_signs := d_are_signs, a_is_word := a_is_word, d_is_word := d_is_word, a_is_row := a_is_row, d_is_row := d_is_row, a_BadHouse___init__ := a_BadHouse___init__, d_BadHouse___init__ := d_BadHouse___init__, a_is_name := a_is_name, d_is_name := d_is_name, a_sorts_of := a_sorts_of, d_sorts_of := d_sorts_of, a_parts_of := a_parts_of, d_parts_of := d_parts_of, a_is_leaf_right := a_is_leaf_right, d_is_leaf_right := d_is_leaf_right, a_within := a_within, d_within := d_within, a_within_part := a_within_part, d_within_part := d_within_part, a_is_program := a_is_program, d_is_program := d_is_program, a_told := a_told, d_told := d_told, a_is_so := a_is_so, d_is_so := d_is_so, a_said_each := a_said_each, d_said_each := d_said_each, a_said := a_said, d_said := d_said, a_Program___init__ := a_Program___init__, d_Program___init__ := d_Program___init__, a_Program___eq__ := a_Program___eq__, d_Program___eq__ := d_Program___eq__, a_Program_word := a_Program_word, d_Program_word := d_Program_word, a_asked := a_asked, d_asked := d_asked, a__law_hand := a__law_hand, d__law_hand := d__law_hand, a__law_draw := a__law_draw, d__law_draw := d__law_draw, a__law_pick := a__law_pick, d__law_pick := d__law_pick, a__law_is := a__law_is, d__law_is := d__law_is, a__law_signs := a__law_signs, d__law_signs := d__law_signs, a__law_word := a__law_word, d__law_word := d__law_word, a__law_name := a__law_name, d__law_name := d__law_name, a__law_e := a__law_e, d__law_e := d__law_e, a__law_c := a__law_c, d__law_c := d__law_c, a__law_statement := a__law_statement, d__law_statement := d__law_statement, a__law_body := a__law_body, d__law_body := d__law_body, a__law_program := a__law_program, d__law_program := d__law_program, a__law_value := a__law_value, d__law_value := d__law_value, a__law_is_so := a__law_is_so, d__law_is_so := d__law_is_so, a__law_run := a__law_run, d__law_run := d__law_run, a__law_due := a__law_due, d__law_due := d__law_due, a__law_row := a__law_row, d__law_row := d__law_row, a__law_long := a__law_long, d__law_long := d__law_long, a__law_small := a__law_small, d__law_small := d__law_small, a__law_is_small_right := a__law_is_small_right, d__law_is_small_right := d__law_is_small_right, a_law := a_law, d_law := d_law, c_TalkError := c_TalkError, c_BadHouse := c_BadHouse, c_NoRow := 0, c_BadProgram := 0, c_Program := c_Program }
  have T : Txt w K mg a := {
    f_is_sized := F_is_sized, b_is_sized := B_is_sized, kp_is_sized := kk_is_sized,
    mg_is_sized := PySem.W.mg_of X G n_is_sized,
    f_are_signs := F_are_signs, b_are_signs := B_are_signs, kp_are_signs := kk_are_signs,
    mg_are_signs := PySem.W.mg_of X G n_are_signs,
    f_is_word := F_is_word, b_is_word := B_is_word, kp_is_word := kk_is_word,
    mg_is_word := PySem.W.mg_of X G n_is_word,
    f_is_row := F_is_row, b_is_row := B_is_row, kp_is_row := kk_is_row,
    mg_is_row := PySem.W.mg_of X G n_is_row,
    f_BadHouse___init__ := F_BadHouse___init__, b_BadHouse___init__ := B_BadHouse___init__, kp_BadHouse___init__ := kk_BadHouse___init__,
    f_is_name := F_is_name, b_is_name := B_is_name, kp_is_name := kk_is_name,
    mg_is_name := PySem.W.mg_of X G n_is_name,
    f_sorts_of := F_sorts_of, b_sorts_of := B_sorts_of, kp_sorts_of := kk_sorts_of,
    mg_sorts_of := PySem.W.mg_of X G n_sorts_of,
    f_parts_of := F_parts_of, b_parts_of := B_parts_of, kp_parts_of := kk_parts_of,
    mg_parts_of := PySem.W.mg_of X G n_parts_of,
    f_is_leaf_right := F_is_leaf_right, b_is_leaf_right := B_is_leaf_right, kp_is_leaf_right := kk_is_leaf_right,
    mg_is_leaf_right := PySem.W.mg_of X G n_is_leaf_right,
    f_within := F_within, b_within := B_within, kp_within := kk_within,
    mg_within := PySem.W.mg_of X G n_within,
    f_within_part := F_within_part, b_within_part := B_within_part, kp_within_part := kk_within_part,
    mg_within_part := PySem.W.mg_of X G n_within_part,
    f_is_program := F_is_program, b_is_program := B_is_program, kp_is_program := kk_is_program,
    mg_is_program := PySem.W.mg_of X G n_is_program,
    f_told := F_told, b_told := B_told, kp_told := kk_told,
    mg_told := PySem.W.mg_of X G n_told,
    f_is_so := F_is_so, b_is_so := B_is_so, kp_is_so := kk_is_so,
    mg_is_so := PySem.W.mg_of X G n_is_so,
    f_said_each := F_said_each, b_said_each := B_said_each, kp_said_each := kk_said_each,
    mg_said_each := PySem.W.mg_of X G n_said_each,
    f_said := F_said, b_said := B_said, kp_said := kk_said,
    mg_said := PySem.W.mg_of X G n_said,
    f_Program___init__ := F_Program___init__, b_Program___init__ := B_Program___init__, kp_Program___init__ := kk_Program___init__,
    f_Program___eq__ := F_Program___eq__, b_Program___eq__ := B_Program___eq__, kp_Program___eq__ := kk_Program___eq__,
    f_Program_word := F_Program_word, b_Program_word := B_Program_word, kp_Program_word := kk_Program_word,
    f_asked := F_asked, b_asked := B_asked, kp_asked := kk_asked,
    mg_asked := PySem.W.mg_of X G n_asked,
    f__law_hand := F__law_hand, b__law_hand := B__law_hand, kp__law_hand := kk__law_hand,
    mg__law_hand := PySem.W.mg_of X G n__law_hand,
    f__law_draw := F__law_draw, b__law_draw := B__law_draw, kp__law_draw := kk__law_draw,
    mg__law_draw := PySem.W.mg_of X G n__law_draw,
    f__law_pick := F__law_pick, b__law_pick := B__law_pick, kp__law_pick := kk__law_pick,
    mg__law_pick := PySem.W.mg_of X G n__law_pick,
    f__law_is := F__law_is, b__law_is := B__law_is, kp__law_is := kk__law_is,
    mg__law_is := PySem.W.mg_of X G n__law_is,
    f__law_signs := F__law_signs, b__law_signs := B__law_signs, kp__law_signs := kk__law_signs,
    mg__law_signs := PySem.W.mg_of X G n__law_signs,
    f__law_word := F__law_word, b__law_word := B__law_word, kp__law_word := kk__law_word,
    mg__law_word := PySem.W.mg_of X G n__law_word,
    f__law_name := F__law_name, b__law_name := B__law_name, kp__law_name := kk__law_name,
    mg__law_name := PySem.W.mg_of X G n__law_name,
    f__law_e := F__law_e, b__law_e := B__law_e, kp__law_e := kk__law_e,
    mg__law_e := PySem.W.mg_of X G n__law_e,
    f__law_c := F__law_c, b__law_c := B__law_c, kp__law_c := kk__law_c,
    mg__law_c := PySem.W.mg_of X G n__law_c,
    f__law_statement := F__law_statement, b__law_statement := B__law_statement, kp__law_statement := kk__law_statement,
    mg__law_statement := PySem.W.mg_of X G n__law_statement,
    f__law_body := F__law_body, b__law_body := B__law_body, kp__law_body := kk__law_body,
    mg__law_body := PySem.W.mg_of X G n__law_body,
    f__law_program := F__law_program, b__law_program := B__law_program, kp__law_program := kk__law_program,
    mg__law_program := PySem.W.mg_of X G n__law_program,
    f__law_value := F__law_value, b__law_value := B__law_value, kp__law_value := kk__law_value,
    mg__law_value := PySem.W.mg_of X G n__law_value,
    f__law_is_so := F__law_is_so, b__law_is_so := B__law_is_so, kp__law_is_so := kk__law_is_so,
    mg__law_is_so := PySem.W.mg_of X G n__law_is_so,
    f__law_run := F__law_run, b__law_run := B__law_run, kp__law_run := kk__law_run,
    mg__law_run := PySem.W.mg_of X G n__law_run,
    f__law_due := F__law_due, b__law_due := B__law_due, kp__law_due := kk__law_due,
    mg__law_due := PySem.W.mg_of X G n__law_due,
    f__law_row := F__law_row, b__law_row := B__law_row, kp__law_row := kk__law_row,
    mg__law_row := PySem.W.mg_of X G n__law_row,
    f__law_long := F__law_long, b__law_long := B__law_long, kp__law_long := kk__law_long,
    mg__law_long := PySem.W.mg_of X G n__law_long,
    f__law_small := F__law_small, b__law_small := B__law_small, kp__law_small := kk__law_small,
    mg__law_small := PySem.W.mg_of X G n__law_small,
    f__law_is_small_right := F__law_is_small_right, b__law_is_small_right := B__law_is_small_right, kp__law_is_small_right := kk__law_is_small_right,
    mg__law_is_small_right := PySem.W.mg_of X G n__law_is_small_right,
    f_law := F_law, b_law := B_law, kp_law := kk_law,
    mg_law := PySem.W.mg_of X G n_law,
    mg_Program := PySem.W.mg_of X G m_Program,
    mk_Program := ⟨mm_Program, n_Program___init__, mf_Program, mk_Program⟩,
    me_Program_word := ⟨n_Program_word, mef_Program_word, kk_Program_word⟩,
    eq_Program := n_Program___eq__, eqf_Program := ef_Program,
    cl := fun c => ⟨pg_Program, hd_Program, po_Program, sa_Program⟩,
    insTy := fun c => ⟨⟨pg_Program, hd_Program, po_Program, sa_Program⟩, ca_Program, cg, ct, cm_Program, ci_Program, cy_Program, nb_mk nb_bool_Program nb_int_Program nb_str_Program nb_tuple_Program nb_list_Program nb_dict_Program⟩,
    unl := fun c c' h1 h2 ne => (ne (by omega)).elim,
    apt := fun c c' h1 h2 ne => (ne (by omega)).elim,
    na_row := fun c => na_row_Program,
    na_statements := fun c => na_statements_Program,
    mgx_BadHouse := PySem.W.mg_of X G m_BadHouse,
    oex_BadHouse := ⟨⟨nm_BadHouse, q_BadHouse, N_BadHouse, bs_BadHouse, _, sn_BadHouse, sub_BadHouse, ab_BadHouse, col_BadHouse, dd_BadHouse, k0_BadHouse, k1_BadHouse, k2_BadHouse, k3_BadHouse, k5_BadHouse, xl_BadHouse, rfl⟩, sxx_BadHouse, sb_BadHouse, ty_BadHouse, kx_BadHouse⟩,
    xf_BadHouse := ⟨gx_BadHouse, gg_BadHouse, sb_BadHouse, hx_BadHouse⟩, ini_BadHouse := n_BadHouse___init__, tyf_BadHouse := ti_BadHouse, nof_BadHouse := nf_BadHouse,
    k_ALONE := ⟨p_ALONE, PySem.W.mg_of X G q_ALONE, rep_ktup [V.str "many", V.str "last"] qt_ALONE (by show 2 ≤ sizeLine; decide) (.cons ⟨_, rfl⟩ (.cons ⟨_, rfl⟩ .nil)) (fun F => ⟨_, _, rfl, rfl, ⟨_, _, rfl, rfl, rfl⟩⟩)⟩,
    k_STATEMENTS := ⟨p_STATEMENTS, PySem.W.mg_of X G q_STATEMENTS, ktab (g := gm K a) (w := w) [("say", tk_STATEMENTS_0, .ref v_STATEMENTS_0, .tup [.str "e"]), ("let", tk_STATEMENTS_1, .ref v_STATEMENTS_1, .tup [.str "name", .str "e"]), ("if", tk_STATEMENTS_2, .ref v_STATEMENTS_2, .tup [.str "c", .str "body", .str "body"]), ("each", tk_STATEMENTS_3, .ref v_STATEMENTS_3, .tup [.str "name", .str "body"])] ql_STATEMENTS qs_STATEMENTS (by
      intro r hr
      simp only [List.mem_cons, List.not_mem_nil, or_false] at hr
      rcases hr with rfl | rfl | rfl | rfl
      · exact ⟨.ref v_STATEMENTS_0, rfl, rep_ktup [V.str "e"] qt_STATEMENTS_0 (by show 1 ≤ sizeLine; decide) (.cons ⟨_, rfl⟩ .nil) (fun F => ⟨_, _, rfl, rfl, rfl⟩)⟩
      · exact ⟨.ref v_STATEMENTS_1, rfl, rep_ktup [V.str "name", V.str "e"] qt_STATEMENTS_1 (by show 2 ≤ sizeLine; decide) (.cons ⟨_, rfl⟩ (.cons ⟨_, rfl⟩ .nil)) (fun F => ⟨_, _, rfl, rfl, ⟨_, _, rfl, rfl, rfl⟩⟩)⟩
      · exact ⟨.ref v_STATEMENTS_2, rfl, rep_ktup [V.str "c", V.str "body", V.str "body"] qt_STATEMENTS_2 (by show 3 ≤ sizeLine; decide) (.cons ⟨_, rfl⟩ (.cons ⟨_, rfl⟩ (.cons ⟨_, rfl⟩ .nil))) (fun F => ⟨_, _, rfl, rfl, ⟨_, _, rfl, rfl, ⟨_, _, rfl, rfl, rfl⟩⟩⟩)⟩
      · exact ⟨.ref v_STATEMENTS_3, rfl, rep_ktup [V.str "name", V.str "body"] qt_STATEMENTS_3 (by show 2 ≤ sizeLine; decide) (.cons ⟨_, rfl⟩ (.cons ⟨_, rfl⟩ .nil)) (fun F => ⟨_, _, rfl, rfl, ⟨_, _, rfl, rfl, rfl⟩⟩)⟩)⟩,
    k_EXPRESSIONS := ⟨p_EXPRESSIONS, PySem.W.mg_of X G q_EXPRESSIONS, ktab (g := gm K a) (w := w) [("text", tk_EXPRESSIONS_0, .ref v_EXPRESSIONS_0, .tup [.str "word"]), ("name", tk_EXPRESSIONS_1, .ref v_EXPRESSIONS_1, .tup [.str "name"]), ("join", tk_EXPRESSIONS_2, .ref v_EXPRESSIONS_2, .tup [.str "e", .str "e"]), ("turn", tk_EXPRESSIONS_3, .ref v_EXPRESSIONS_3, .tup [.str "e"]), ("rest", tk_EXPRESSIONS_4, .ref v_EXPRESSIONS_4, .tup [.str "e"]), ("first", tk_EXPRESSIONS_5, .ref v_EXPRESSIONS_5, .tup [.str "e"]), ("many", tk_EXPRESSIONS_6, .ref v_EXPRESSIONS_6, .tup []), ("last", tk_EXPRESSIONS_7, .ref v_EXPRESSIONS_7, .tup [])] ql_EXPRESSIONS qs_EXPRESSIONS (by
      intro r hr
      simp only [List.mem_cons, List.not_mem_nil, or_false] at hr
      rcases hr with rfl | rfl | rfl | rfl | rfl | rfl | rfl | rfl
      · exact ⟨.ref v_EXPRESSIONS_0, rfl, rep_ktup [V.str "word"] qt_EXPRESSIONS_0 (by show 1 ≤ sizeLine; decide) (.cons ⟨_, rfl⟩ .nil) (fun F => ⟨_, _, rfl, rfl, rfl⟩)⟩
      · exact ⟨.ref v_EXPRESSIONS_1, rfl, rep_ktup [V.str "name"] qt_EXPRESSIONS_1 (by show 1 ≤ sizeLine; decide) (.cons ⟨_, rfl⟩ .nil) (fun F => ⟨_, _, rfl, rfl, rfl⟩)⟩
      · exact ⟨.ref v_EXPRESSIONS_2, rfl, rep_ktup [V.str "e", V.str "e"] qt_EXPRESSIONS_2 (by show 2 ≤ sizeLine; decide) (.cons ⟨_, rfl⟩ (.cons ⟨_, rfl⟩ .nil)) (fun F => ⟨_, _, rfl, rfl, ⟨_, _, rfl, rfl, rfl⟩⟩)⟩
      · exact ⟨.ref v_EXPRESSIONS_3, rfl, rep_ktup [V.str "e"] qt_EXPRESSIONS_3 (by show 1 ≤ sizeLine; decide) (.cons ⟨_, rfl⟩ .nil) (fun F => ⟨_, _, rfl, rfl, rfl⟩)⟩
      · exact ⟨.ref v_EXPRESSIONS_4, rfl, rep_ktup [V.str "e"] qt_EXPRESSIONS_4 (by show 1 ≤ sizeLine; decide) (.cons ⟨_, rfl⟩ .nil) (fun F => ⟨_, _, rfl, rfl, rfl⟩)⟩
      · exact ⟨.ref v_EXPRESSIONS_5, rfl, rep_ktup [V.str "e"] qt_EXPRESSIONS_5 (by show 1 ≤ sizeLine; decide) (.cons ⟨_, rfl⟩ .nil) (fun F => ⟨_, _, rfl, rfl, rfl⟩)⟩
      · exact ⟨.ref v_EXPRESSIONS_6, rfl, rep_ktup [] qt_EXPRESSIONS_6 (by show 0 ≤ sizeLine; decide) .nil (fun F => rfl)⟩
      · exact ⟨.ref v_EXPRESSIONS_7, rfl, rep_ktup [] qt_EXPRESSIONS_7 (by show 0 ≤ sizeLine; decide) .nil (fun F => rfl)⟩)⟩,
    k_CONDITIONS := ⟨p_CONDITIONS, PySem.W.mg_of X G q_CONDITIONS, ktab (g := gm K a) (w := w) [("same", tk_CONDITIONS_0, .ref v_CONDITIONS_0, .tup [.str "e", .str "e"]), ("ahead", tk_CONDITIONS_1, .ref v_CONDITIONS_1, .tup [.str "e", .str "e"]), ("in", tk_CONDITIONS_2, .ref v_CONDITIONS_2, .tup [.str "e", .str "e"]), ("not", tk_CONDITIONS_3, .ref v_CONDITIONS_3, .tup [.str "c"])] ql_CONDITIONS qs_CONDITIONS (by
      intro r hr
      simp only [List.mem_cons, List.not_mem_nil, or_false] at hr
      rcases hr with rfl | rfl | rfl | rfl
      · exact ⟨.ref v_CONDITIONS_0, rfl, rep_ktup [V.str "e", V.str "e"] qt_CONDITIONS_0 (by show 2 ≤ sizeLine; decide) (.cons ⟨_, rfl⟩ (.cons ⟨_, rfl⟩ .nil)) (fun F => ⟨_, _, rfl, rfl, ⟨_, _, rfl, rfl, rfl⟩⟩)⟩
      · exact ⟨.ref v_CONDITIONS_1, rfl, rep_ktup [V.str "e", V.str "e"] qt_CONDITIONS_1 (by show 2 ≤ sizeLine; decide) (.cons ⟨_, rfl⟩ (.cons ⟨_, rfl⟩ .nil)) (fun F => ⟨_, _, rfl, rfl, ⟨_, _, rfl, rfl, rfl⟩⟩)⟩
      · exact ⟨.ref v_CONDITIONS_2, rfl, rep_ktup [V.str "e", V.str "e"] qt_CONDITIONS_2 (by show 2 ≤ sizeLine; decide) (.cons ⟨_, rfl⟩ (.cons ⟨_, rfl⟩ .nil)) (fun F => ⟨_, _, rfl, rfl, ⟨_, _, rfl, rfl, rfl⟩⟩)⟩
      · exact ⟨.ref v_CONDITIONS_3, rfl, rep_ktup [V.str "c"] qt_CONDITIONS_3 (by show 1 ≤ sizeLine; decide) (.cons ⟨_, rfl⟩ .nil) (fun F => ⟨_, _, rfl, rfl, rfl⟩)⟩)⟩,
    k_MOST_SIGNS := ⟨_, PySem.W.mg_of X G q_MOST_SIGNS, ⟨_, rfl⟩⟩,
    k_MOST_WORDS := ⟨_, PySem.W.mg_of X G q_MOST_WORDS, ⟨_, rfl⟩⟩,
    k_MOST_DEEP := ⟨_, PySem.W.mg_of X G q_MOST_DEEP, ⟨_, rfl⟩⟩,
    k_MOST_EACH := ⟨_, PySem.W.mg_of X G q_MOST_EACH, ⟨_, rfl⟩⟩,
    k_MOST_PARTS := ⟨_, PySem.W.mg_of X G q_MOST_PARTS, ⟨_, rfl⟩⟩,
    k_MOST_LETTERS := ⟨_, PySem.W.mg_of X G q_MOST_LETTERS, ⟨_, rfl⟩⟩,
    k_LETTERS := ⟨_, PySem.W.mg_of X G q_LETTERS, ⟨_, rfl⟩⟩,
    k_STATEMENT := ⟨_, PySem.W.mg_of X G q_STATEMENT, ⟨_, rfl⟩⟩,
    k_EXPRESSION := ⟨_, PySem.W.mg_of X G q_EXPRESSION, ⟨_, rfl⟩⟩,
    k_CONDITION := ⟨_, PySem.W.mg_of X G q_CONDITION, ⟨_, rfl⟩⟩,
    k_NAME := ⟨_, PySem.W.mg_of X G q_NAME, ⟨_, rfl⟩⟩,
    k_WORD := ⟨_, PySem.W.mg_of X G q_WORD, ⟨_, rfl⟩⟩,
    k_BODY := ⟨_, PySem.W.mg_of X G q_BODY, ⟨_, rfl⟩⟩,
    b_all := PySem.W.mg_none_of X G b_all,
    b_bool := PySem.W.mg_none_of X G b_bool,
    b_int := PySem.W.mg_none_of X G b_int,
    b_isinstance := PySem.W.mg_none_of X G b_isinstance,
    b_len := PySem.W.mg_none_of X G b_len,
    b_list := PySem.W.mg_none_of X G b_list,
    b_range := PySem.W.mg_none_of X G b_range,
    b_str := PySem.W.mg_none_of X G b_str,
    b_tuple := PySem.W.mg_none_of X G b_tuple,
    b_zip := PySem.W.mg_none_of X G b_zip }
  exact ⟨a, T, PySem.W.mg_of X G n_law⟩
theorem walk {l : PySem.W.OpenLaw} {q : Program} {loose : List Str} {XP : (Str → Option Value) → Heap → Prop} {YP : World → Heap → Prop} {d : DefRec} {K : Params → PySem.W.Frag} (hn : l.most = some 63) (hdf : d.params.defaults = []) (hnm : d.name = "law")
    (hY : ∀ (w : World) (h : Heap), YP w h → (K w.params).In h)
    (F : ∀ (w : World) (mg : Str → Option Value) (h : Heap), (K w.params).In h → h.Ns mainGlobals mg → ∃ a : Adr, Txt w (K w.params) mg a ∧ mg "law" = some (.ref a.a_law))
    (main : ∀ ns : List Int, ns.length ≤ 63 → ∃ bs, sem_law [.fz (.scr ns)] = .val (.bl true) bs) :
    PySem.W.WalkO q loose XP YP l.row.toRowW d [] (fun f vs => PySem.call f vs) := by
  refine Att.attach_call hn hdf fun w s₀ s₁ mg mb fa o pm cd doc a vs ns G Y ho hd hcd hmg hobj hints hlen hg => ?_
  have KX := hY w _ Y
  obtain ⟨ad, T, hlaw⟩ := F w mg _ KX G.T.g
  rw [hnm] at hmg
  obtain rfl : fa = ad.a_law := by
    rw [hmg] at hlaw
    injection (Option.some.inj hlaw)
  obtain ⟨oc, od, kV, dc, pm', an, cdv, ct, osl, efd, _, _⟩ := T.f_law.ex
  refine law_call (CX := L2.CX l.prog w) (k := 106) (fd := ad.d_law) (x := "script") (sp := spF (gm (K w.params) ad) 1 sem_law) KX G.T.g G.T.b G.T.builtins G.T.nolimit hg hobj hints (Nat.le_trans hlen (by decide)) ⟨rfl, by decide, by decide⟩ (fun base _ _ => ok_law T base) (fun s u => by rw [efd]; exact .of_eq rfl) (fun H hO hS => law_sp hO hS (main ns hlen)) fun H e s' z => ?_
  obtain ⟨_, _, _, _, _, _, _, _, _, _, _, _, z⟩ := z
  exact z
end Law

open PySem PySem.W PyProof.Rows in
set_option maxRecDepth 100000 in
set_option maxHeartbeats 0 in
theorem PySem.Challenge.cw_turnedtalk_k04_whole_programs_by_an_own_holds : PySem.Challenge.rw_turnedtalk_k04_whole_programs_by_an_own.Holds := by
  w_on; o_law; k_head; (case hw => w_witness2)
  k_fill
  refine Law.walk (l := PySem.Challenge.rw_turnedtalk_k04_whole_programs_by_an_own) rfl rfl (by decide +kernel) (fun w h Y => PySem.W.kIn_of Y) ?F Law.main
  case F =>
    intro w mg h KX G
    refine' Law.all_mk (w := w) KX G ?m_TalkError ?m_BadHouse ?m_Program ?n_is_sized ?l_is_sized ?e_is_sized ?kk_is_sized ?n_are_signs ?l_are_signs ?e_are_signs ?kk_are_signs ?n_is_word ?l_is_word ?e_is_word ?kk_is_word ?n_is_row ?l_is_row ?e_is_row ?kk_is_row ?n_BadHouse___init__ ?l_BadHouse___init__ ?e_BadHouse___init__ ?kk_BadHouse___init__ ?n_is_name ?l_is_name ?e_is_name ?kk_is_name ?n_sorts_of ?l_sorts_of ?e_sorts_of ?kk_sorts_of ?n_parts_of ?l_parts_of ?e_parts_of ?kk_parts_of ?n_is_leaf_right ?l_is_leaf_right ?e_is_leaf_right ?kk_is_leaf_right ?n_within ?l_within ?e_within ?kk_within ?n_within_part ?l_within_part ?e_within_part ?kk_within_part ?n_is_program ?l_is_program ?e_is_program ?kk_is_program ?n_told ?l_told ?e_told ?kk_told ?n_is_so ?l_is_so ?e_is_so ?kk_is_so ?n_said_each ?l_said_each ?e_said_each ?kk_said_each ?n_said ?l_said ?e_said ?kk_said ?n_Program___init__ ?l_Program___init__ ?e_Program___init__ ?kk_Program___init__ ?n_Program___eq__ ?l_Program___eq__ ?e_Program___eq__ ?kk_Program___eq__ ?n_Program_word ?l_Program_word ?e_Program_word ?kk_Program_word ?n_asked ?l_asked ?e_asked ?kk_asked ?n__law_hand ?l__law_hand ?e__law_hand ?kk__law_hand ?n__law_draw ?l__law_draw ?e__law_draw ?kk__law_draw ?n__law_pick ?l__law_pick ?e__law_pick ?kk__law_pick ?n__law_is ?l__law_is ?e__law_is ?kk__law_is ?n__law_signs ?l__law_signs ?e__law_signs ?kk__law_signs ?n__law_word ?l__law_word ?e__law_word ?kk__law_word ?n__law_name ?l__law_name ?e__law_name ?kk__law_name ?n__law_e ?l__law_e ?e__law_e ?kk__law_e ?n__law_c ?l__law_c ?e__law_c ?kk__law_c ?n__law_statement ?l__law_statement ?e__law_statement ?kk__law_statement ?n__law_body ?l__law_body ?e__law_body ?kk__law_body ?n__law_program ?l__law_program ?e__law_program ?kk__law_program ?n__law_value ?l__law_value ?e__law_value ?kk__law_value ?n__law_is_so ?l__law_is_so ?e__law_is_so ?kk__law_is_so ?n__law_run ?l__law_run ?e__law_run ?kk__law_run ?n__law_due ?l__law_due ?e__law_due ?kk__law_due ?n__law_row ?l__law_row ?e__law_row ?kk__law_row ?n__law_long ?l__law_long ?e__law_long ?kk__law_long ?n__law_small ?l__law_small ?e__law_small ?kk__law_small ?n__law_is_small_right ?l__law_is_small_right ?e__law_is_small_right ?kk__law_is_small_right ?n_law ?l_law ?e_law ?kk_law ?pg_Program ?hd_Program ?po_Program ?sa_Program ?ca_Program ?cm_Program ?ci_Program ?cy_Program ?nb_bool_Program ?nb_int_Program ?nb_str_Program ?nb_tuple_Program ?nb_list_Program ?nb_dict_Program ?mm_Program ?mf_Program ?mk_Program ?mef_Program_word ?ef_Program ?na_row_Program ?na_statements_Program ?sb_TalkError ?ty_TalkError ?hx_TalkError ?gx_TalkError ?gg_TalkError ?cx_TalkError ?mx_TalkError ?cix_TalkError ?kx_TalkError ?sb_BadHouse ?ty_BadHouse ?hx_BadHouse ?gx_BadHouse ?gg_BadHouse ?cx_BadHouse ?mx_BadHouse ?cix_BadHouse ?kx_BadHouse ?xl_BadHouse ?sxx_BadHouse ?nf_BadHouse ?ti_BadHouse ?cg ?ct ?q_MOST_SIGNS ?q_MOST_WORDS ?q_MOST_DEEP ?q_MOST_EACH ?q_MOST_PARTS ?q_MOST_LETTERS ?q_LETTERS ?q_STATEMENT ?q_EXPRESSION ?q_CONDITION ?q_NAME ?q_WORD ?q_BODY ?q_ALONE ?qt_ALONE ?q_STATEMENTS ?ql_STATEMENTS ?qt_STATEMENTS_0 ?qt_STATEMENTS_1 ?qt_STATEMENTS_2 ?qt_STATEMENTS_3 ?qs_STATEMENTS ?q_EXPRESSIONS ?ql_EXPRESSIONS ?qt_EXPRESSIONS_0 ?qt_EXPRESSIONS_1 ?qt_EXPRESSIONS_2 ?qt_EXPRESSIONS_3 ?qt_EXPRESSIONS_4 ?qt_EXPRESSIONS_5 ?qt_EXPRESSIONS_6 ?qt_EXPRESSIONS_7 ?qs_EXPRESSIONS ?q_CONDITIONS ?ql_CONDITIONS ?qt_CONDITIONS_0 ?qt_CONDITIONS_1 ?qt_CONDITIONS_2 ?qt_CONDITIONS_3 ?qs_CONDITIONS ?b_all ?b_bool ?b_int ?b_isinstance ?b_len ?b_list ?b_range ?b_str ?b_tuple ?b_zip
    (case m_TalkError => k_is)
    (case m_BadHouse => k_is)
    (case m_Program => k_is)
    (case n_is_sized => k_is)
    (case l_is_sized => k_is)
    (case e_is_sized => k_is)
    (case kk_is_sized => k_is)
    (case n_are_signs => k_is)
    (case l_are_signs => k_is)
    (case e_are_signs => k_is)
    (case kk_are_signs => k_is)
    (case n_is_word => k_is)
    (case l_is_word => k_is)
    (case e_is_word => k_is)
    (case kk_is_word => k_is)
    (case n_is_row => k_is)
    (case l_is_row => k_is)
    (case e_is_row => k_is)
    (case kk_is_row => k_is)
    (case n_BadHouse___init__ => k_is)
    (case l_BadHouse___init__ => k_is)
    (case e_BadHouse___init__ => k_is)
    (case kk_BadHouse___init__ => k_is)
    (case n_is_name => k_is)
    (case l_is_name => k_is)
    (case e_is_name => k_is)
    (case kk_is_name => k_is)
    (case n_sorts_of => k_is)
    (case l_sorts_of => k_is)
    (case e_sorts_of => k_is)
    (case kk_sorts_of => k_is)
    (case n_parts_of => k_is)
    (case l_parts_of => k_is)
    (case e_parts_of => k_is)
    (case kk_parts_of => k_is)
    (case n_is_leaf_right => k_is)
    (case l_is_leaf_right => k_is)
    (case e_is_leaf_right => k_is)
    (case kk_is_leaf_right => k_is)
    (case n_within => k_is)
    (case l_within => k_is)
    (case e_within => k_is)
    (case kk_within => k_is)
    (case n_within_part => k_is)
    (case l_within_part => k_is)
    (case e_within_part => k_is)
    (case kk_within_part => k_is)
    (case n_is_program => k_is)
    (case l_is_program => k_is)
    (case e_is_program => k_is)
    (case kk_is_program => k_is)
    (case n_told => k_is)
    (case l_told => k_is)
    (case e_told => k_is)
    (case kk_told => k_is)
    (case n_is_so => k_is)
    (case l_is_so => k_is)
    (case e_is_so => k_is)
    (case kk_is_so => k_is)
    (case n_said_each => k_is)
    (case l_said_each => k_is)
    (case e_said_each => k_is)
    (case kk_said_each => k_is)
    (case n_said => k_is)
    (case l_said => k_is)
    (case e_said => k_is)
    (case kk_said => k_is)
    (case n_Program___init__ => k_is)
    (case l_Program___init__ => k_is)
    (case e_Program___init__ => k_is)
    (case kk_Program___init__ => k_is)
    (case n_Program___eq__ => k_is)
    (case l_Program___eq__ => k_is)
    (case e_Program___eq__ => k_is)
    (case kk_Program___eq__ => k_is)
    (case n_Program_word => k_is)
    (case l_Program_word => k_is)
    (case e_Program_word => k_is)
    (case kk_Program_word => k_is)
    (case n_asked => k_is)
    (case l_asked => k_is)
    (case e_asked => k_is)
    (case kk_asked => k_is)
    (case n__law_hand => k_is)
    (case l__law_hand => k_is)
    (case e__law_hand => k_is)
    (case kk__law_hand => k_is)
    (case n__law_draw => k_is)
    (case l__law_draw => k_is)
    (case e__law_draw => k_is)
    (case kk__law_draw => k_is)
    (case n__law_pick => k_is)
    (case l__law_pick => k_is)
    (case e__law_pick => k_is)
    (case kk__law_pick => k_is)
    (case n__law_is => k_is)
    (case l__law_is => k_is)
    (case e__law_is => k_is)
    (case kk__law_is => k_is)
    (case n__law_signs => k_is)
    (case l__law_signs => k_is)
    (case e__law_signs => k_is)
    (case kk__law_signs => k_is)
    (case n__law_word => k_is)
    (case l__law_word => k_is)
    (case e__law_word => k_is)
    (case kk__law_word => k_is)
    (case n__law_name => k_is)
    (case l__law_name => k_is)
    (case e__law_name => k_is)
    (case kk__law_name => k_is)
    (case n__law_e => k_is)
    (case l__law_e => k_is)
    (case e__law_e => k_is)
    (case kk__law_e => k_is)
    (case n__law_c => k_is)
    (case l__law_c => k_is)
    (case e__law_c => k_is)
    (case kk__law_c => k_is)
    (case n__law_statement => k_is)
    (case l__law_statement => k_is)
    (case e__law_statement => k_is)
    (case kk__law_statement => k_is)
    (case n__law_body => k_is)
    (case l__law_body => k_is)
    (case e__law_body => k_is)
    (case kk__law_body => k_is)
    (case n__law_program => k_is)
    (case l__law_program => k_is)
    (case e__law_program => k_is)
    (case kk__law_program => k_is)
    (case n__law_value => k_is)
    (case l__law_value => k_is)
    (case e__law_value => k_is)
    (case kk__law_value => k_is)
    (case n__law_is_so => k_is)
    (case l__law_is_so => k_is)
    (case e__law_is_so => k_is)
    (case kk__law_is_so => k_is)
    (case n__law_run => k_is)
    (case l__law_run => k_is)
    (case e__law_run => k_is)
    (case kk__law_run => k_is)
    (case n__law_due => k_is)
    (case l__law_due => k_is)
    (case e__law_due => k_is)
    (case kk__law_due => k_is)
    (case n__law_row => k_is)
    (case l__law_row => k_is)
    (case e__law_row => k_is)
    (case kk__law_row => k_is)
    (case n__law_long => k_is)
    (case l__law_long => k_is)
    (case e__law_long => k_is)
    (case kk__law_long => k_is)
    (case n__law_small => k_is)
    (case l__law_small => k_is)
    (case e__law_small => k_is)
    (case kk__law_small => k_is)
    (case n__law_is_small_right => k_is)
    (case l__law_is_small_right => k_is)
    (case e__law_is_small_right => k_is)
    (case kk__law_is_small_right => k_is)
    (case n_law => k_is)
    (case l_law => k_is)
    (case e_law => k_is)
    (case kk_law => k_is)
    (case pg_Program => k_is)
    (case hd_Program => k_is)
    (case po_Program => k_is)
    (case sa_Program => k_is)
    (case ca_Program => k_is)
    (case cm_Program => k_is)
    (case ci_Program => k_is)
    (case cy_Program => k_is)
    (case nb_bool_Program => k_is)
    (case nb_int_Program => k_is)
    (case nb_str_Program => k_is)
    (case nb_tuple_Program => k_is)
    (case nb_list_Program => k_is)
    (case nb_dict_Program => k_is)
    (case mm_Program => k_is)
    (case mf_Program => k_is)
    (case mk_Program => k_is)
    (case mef_Program_word => k_is)
    (case ef_Program => k_is)
    (case na_row_Program => k_is)
    (case na_statements_Program => k_is)
    (case sb_TalkError => k_is)
    (case ty_TalkError => k_is)
    (case hx_TalkError => k_is)
    (case gx_TalkError => k_is)
    (case gg_TalkError => k_is)
    (case cx_TalkError => k_is)
    (case mx_TalkError => k_is)
    (case cix_TalkError => k_is)
    (case kx_TalkError => k_is)
    (case sb_BadHouse => k_is)
    (case ty_BadHouse => k_is)
    (case hx_BadHouse => k_is)
    (case gx_BadHouse => k_is)
    (case gg_BadHouse => k_is)
    (case cx_BadHouse => k_is)
    (case mx_BadHouse => k_is)
    (case cix_BadHouse => k_is)
    (case kx_BadHouse => k_is)
    (case xl_BadHouse => k_is)
    (case sxx_BadHouse => k_is)
    (case nf_BadHouse => k_is)
    (case ti_BadHouse => k_is)
    (case cg => k_is)
    (case ct => k_is)
    (case q_MOST_SIGNS => k_is)
    (case q_MOST_WORDS => k_is)
    (case q_MOST_DEEP => k_is)
    (case q_MOST_EACH => k_is)
    (case q_MOST_PARTS => k_is)
    (case q_MOST_LETTERS => k_is)
    (case q_LETTERS => k_is)
    (case q_STATEMENT => k_is)
    (case q_EXPRESSION => k_is)
    (case q_CONDITION => k_is)
    (case q_NAME => k_is)
    (case q_WORD => k_is)
    (case q_BODY => k_is)
    (case q_ALONE => k_is)
    (case qt_ALONE => k_is)
    (case q_STATEMENTS => k_is)
    (case ql_STATEMENTS => k_is)
    (case qt_STATEMENTS_0 => k_is)
    (case qt_STATEMENTS_1 => k_is)
    (case qt_STATEMENTS_2 => k_is)
    (case qt_STATEMENTS_3 => k_is)
    (case qs_STATEMENTS => rfl)
    (case q_EXPRESSIONS => k_is)
    (case ql_EXPRESSIONS => k_is)
    (case qt_EXPRESSIONS_0 => k_is)
    (case qt_EXPRESSIONS_1 => k_is)
    (case qt_EXPRESSIONS_2 => k_is)
    (case qt_EXPRESSIONS_3 => k_is)
    (case qt_EXPRESSIONS_4 => k_is)
    (case qt_EXPRESSIONS_5 => k_is)
    (case qt_EXPRESSIONS_6 => k_is)
    (case qt_EXPRESSIONS_7 => k_is)
    (case qs_EXPRESSIONS => rfl)
    (case q_CONDITIONS => k_is)
    (case ql_CONDITIONS => k_is)
    (case qt_CONDITIONS_0 => k_is)
    (case qt_CONDITIONS_1 => k_is)
    (case qt_CONDITIONS_2 => k_is)
    (case qt_CONDITIONS_3 => k_is)
    (case qs_CONDITIONS => rfl)
    (case b_all => k_is)
    (case b_bool => k_is)
    (case b_int => k_is)
    (case b_isinstance => k_is)
    (case b_len => k_is)
    (case b_list => k_is)
    (case b_range => k_is)
    (case b_str => k_is)
    (case b_tuple => k_is)
    (case b_zip => k_is)
