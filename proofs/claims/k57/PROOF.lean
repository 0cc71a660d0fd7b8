import PyProof.Rows.All
import Wide.All
import OpenK.AllK
import Wide.FinOn
import HandS.ForMost
import HandS.ForExc
import HandS.Wide
import HandS.Flow
import HandS.IsInst
import HandS.ExcValue
import HandS.DictTup
import HandS.Zip
import HandS.Conv
import HandS.Rev
import HandS.Replace
import HandS.Defaults
import HandS.HeadHook2
import HandS.Codes
import HandS.ReplaceLit
import PySem.Challenge.RW_sumcraft_k57_terms_written_and_read
import KE.KStateDown
import HandS.Ends
import HandS.Words
import HandS.WordsExc
import HandS.Head0
import HandS.Head1
import HandS.Head2
import HandS.HeadEnd
set_option Elab.async false
set_option linter.all false
set_option maxRecDepth 100000
section
/-! The D layer, 1: values as trees, what stands for them in the heap, environments. -/
namespace DL
open PySem PySem.Spec PyProof.Rows L2

inductive D where
  | non | bl (b : Bool) | int (i : Int) | str (x : Str)
  /-- a tuple; a list; a list that is only read (the script) -/
  | tup (ds : List D) | lst (ds : List D) | fz (ds : List D)
  | dT (kvs : List (List Key × D)) | dK (kvs : List (Key × D))
  | ins (C : Str) (fs : List (Str × D))
  | exc (c : Str)

abbrev Frg := PySem.W.Frag

mutual
def Rep (K : Frg) (H : Hp) : D → V → Prop
  | .non, v => v = .non
  | .bl b, v => v = .bl b
  | .int i, v => v = .int i
  | .str x, v => v = .str x
  | .tup ds, v => ∃ a xs, v = .ref a ∧ SqT K H a xs ∧ Reps K H ds xs
  | .lst ds, v => ∃ a xs, v = .ref a ∧ H a = some (.lst xs) ∧ Reps K H ds xs
  | .fz ds, v => ∃ a xs, v = .ref a ∧ SqL K H a xs ∧ Reps K H ds xs
  | .dT kvs, v => ∃ a ks, v = .ref a ∧ Rd H a (.dT ks) ∧ RepsT K H kvs ks
  | .dK kvs, v => ∃ a ks, v = .ref a ∧ Rd H a (.dK ks) ∧ RepsK K H kvs ks
  | .ins C fs, v => ∃ a dx gs, v = .ref a ∧ H a = some (.ins (He.ga K C) dx gs) ∧ RepsF K H fs gs
  | .exc c, v => ∃ a, v = .ref a ∧ H a = some (ExO (.ref (He.ga K c)) a)
def Reps (K : Frg) (H : Hp) : List D → List V → Prop
  | [], vs => vs = []
  | d :: ds, vs => ∃ v r, vs = v :: r ∧ Rep K H d v ∧ Reps K H ds r
def RepsT (K : Frg) (H : Hp) : List (List Key × D) → List (List Key × V) → Prop
  | [], vs => vs = []
  | (k, d) :: ds, vs => ∃ v r, vs = (k, v) :: r ∧ Rep K H d v ∧ RepsT K H ds r
def RepsK (K : Frg) (H : Hp) : List (Key × D) → List (Key × V) → Prop
  | [], vs => vs = []
  | (k, d) :: ds, vs => ∃ v r, vs = (k, v) :: r ∧ Rep K H d v ∧ RepsK K H ds r
def RepsF (K : Frg) (H : Hp) : List (Str × D) → List (Str × V) → Prop
  | [], vs => vs = []
  | (k, d) :: ds, vs => ∃ v r, vs = (k, v) :: r ∧ Rep K H d v ∧ RepsF K H ds r
end

/-! ### heaps that go on -/
def isDic : HO → Bool
  | .dT _ => true
  | .dK _ => true
  | _ => false
def core : HO → HO
  | .frz o u => if isDic u then u else .frz o u
  | u => u
def Le (H H' : Hp) : Prop := ∀ a o, H a = some o → ∃ o', H' a = some o' ∧ core o' = core o
theorem Le.refl (H : Hp) : Le H H := fun a o h => ⟨o, h, rfl⟩
theorem Le.trans {H H1 H2 : Hp} (x : Le H H1) (y : Le H1 H2) : Le H H2 := fun a o h => by
  obtain ⟨o1, h1, e1⟩ := x a o h
  obtain ⟨o2, h2, e2⟩ := y a o1 h1
  exact ⟨o2, h2, e2.trans e1⟩
theorem Le.none {H H' : Hp} (x : Le H H') {a : Addr} (h : H' a = none) : H a = none := by
  cases e : H a with
  | none => rfl
  | some o =>
    obtain ⟨o', h', _⟩ := x a o e
    rw [h] at h'; cases h'
theorem core_frz_is (q : Obj) (u : HO) : core (.frz q u) = if isDic u = true then u else .frz q u := rfl
/-- an object that is not locked stays as it is -/
theorem core_plain {o o' : HO} (e : core o' = core o) (h : isDic o = false) (hf : ∀ q u, o ≠ .frz q u) : o' = o := by
  have h1 : core o = o := by
    cases o with
    | frz q u => exact absurd rfl (hf q u)
    | _ => rfl
  rw [h1] at e
  cases o' with
  | frz q u =>
    rw [core_frz_is] at e
    by_cases hu : isDic u = true
    · rw [if_pos hu] at e
      subst e
      rw [hu] at h
      cases h
    · rw [if_neg hu] at e
      exact absurd e.symm (hf q u)
  | _ => exact e
theorem core_frz {q : Obj} {u o' : HO} (e : core o' = core (.frz q u)) (h : isDic u = false) : o' = .frz q u := by
  have h1 : core (.frz q u) = .frz q u := by rw [core_frz_is, h]; rfl
  rw [h1] at e
  cases o' with
  | frz q' u' =>
    rw [core_frz_is] at e
    by_cases hu : isDic u' = true
    · rw [if_pos hu] at e
      subst e
      cases hu
    · rw [if_neg hu] at e
      exact e
  | _ => exact e
theorem core_dic {u o : HO} (e : core o = u) (h : isDic u = true) : o = u ∨ ∃ q, o = .frz q u := by
  cases o with
  | frz q u' =>
    rw [core_frz_is] at e
    by_cases hu : isDic u' = true
    · rw [if_pos hu] at e
      exact .inr ⟨q, by rw [e]⟩
    · rw [if_neg hu] at e
      subst e; cases h
  | _ => exact .inl e
theorem Le.at {H H' : Hp} (x : Le H H') {a : Addr} {o : HO} (h : H a = some o) (hd : isDic o = false) (hf : ∀ q u, o ≠ .frz q u) : H' a = some o := by
  obtain ⟨o', h', e⟩ := x a o h
  rw [core_plain e hd hf] at h'
  exact h'
theorem Le.lst {H H' : Hp} (x : Le H H') {a : Addr} {xs : List V} (h : H a = some (.lst xs)) : H' a = some (.lst xs) := x.at h rfl (fun _ _ z => by cases z)
theorem Le.tup {H H' : Hp} (x : Le H H') {a : Addr} {xs : List V} (h : H a = some (.tup xs)) : H' a = some (.tup xs) := x.at h rfl (fun _ _ z => by cases z)
theorem Le.ins {H H' : Hp} (x : Le H H') {a C dx : Addr} {fs : List (Str × V)} (h : H a = some (.ins C dx fs)) : H' a = some (.ins C dx fs) := x.at h rfl (fun _ _ z => by cases z)
theorem Le.own {H H' : Hp} (x : Le H H') {a b : Addr} (h : H a = some (.own b)) : H' a = some (.own b) := x.at h rfl (fun _ _ z => by cases z)
theorem Le.rdN {H H' : Hp} (x : Le H H') {a : Addr} {u : HO} (h : Rd H a u) (hd : isDic u = false) (hf : ∀ q u', u ≠ .frz q u') : Rd H' a u := by
  rcases h with h | ⟨o, h⟩
  · exact .inl (x.at h hd hf)
  · obtain ⟨o', h', e⟩ := x a _ h
    rw [core_frz e hd] at h'
    exact .inr ⟨o, h'⟩
theorem Le.rdD {H H' : Hp} (x : Le H H') {a : Addr} {u : HO} (h : Rd H a u) (hd : isDic u = true) : Rd H' a u := by
  have hc : core u = u := by cases u <;> first | rfl | cases hd
  rcases h with h | ⟨o, h⟩
  · obtain ⟨o', h', e⟩ := x a _ h
    rw [hc] at e
    rcases core_dic e hd with rfl | ⟨q, rfl⟩
    · exact .inl h'
    · exact .inr ⟨q, h'⟩
  · obtain ⟨o', h', e⟩ := x a _ h
    have e2 : core (.frz o u) = u := by rw [core_frz_is, if_pos hd]
    rw [e2] at e
    rcases core_dic e hd with rfl | ⟨q, rfl⟩
    · exact .inl h'
    · exact .inr ⟨q, h'⟩
theorem Le.seq {K : Frg} {H H' : Hp} (x : Le H H') {a : Addr} {xs : List V} (h : SqL K H a xs) : SqL K H' a xs := by
  rcases h with h | h
  · exact .inl (x.rdN h rfl (fun _ _ z => by cases z))
  · exact .inr h
theorem Le.sqt {K : Frg} {H H' : Hp} (x : Le H H') {a : Addr} {xs : List V} (h : SqT K H a xs) : SqT K H' a xs := by
  rcases h with h | h
  · exact .inl (x.rdN h rfl (fun _ _ z => by cases z))
  · exact .inr h

mutual
theorem Rep.mono {K : Frg} {H H' : Hp} (x : Le H H') : ∀ {d : D} {v : V}, Rep K H d v → Rep K H' d v
  | .non, _, h => h
  | .bl _, _, h => h
  | .int _, _, h => h
  | .str _, _, h => h
  | .tup ds, v, h => by
    unfold Rep at h ⊢
    obtain ⟨a, xs, e, s, r⟩ := h
    exact ⟨a, xs, e, x.sqt s, Reps.mono x r⟩
  | .lst ds, v, h => by
    unfold Rep at h ⊢
    obtain ⟨a, xs, e, s, r⟩ := h
    exact ⟨a, xs, e, x.lst s, Reps.mono x r⟩
  | .fz ds, v, h => by
    unfold Rep at h ⊢
    obtain ⟨a, xs, e, s, r⟩ := h
    exact ⟨a, xs, e, x.seq s, Reps.mono x r⟩
  | .dT kvs, v, h => by
    unfold Rep at h ⊢
    obtain ⟨a, ks, e, s, r⟩ := h
    exact ⟨a, ks, e, x.rdD s rfl, RepsT.mono x r⟩
  | .dK kvs, v, h => by
    unfold Rep at h ⊢
    obtain ⟨a, ks, e, s, r⟩ := h
    exact ⟨a, ks, e, x.rdD s rfl, RepsK.mono x r⟩
  | .ins C fs, v, h => by
    unfold Rep at h ⊢
    obtain ⟨a, dx, gs, e, s, r⟩ := h
    exact ⟨a, dx, gs, e, x.ins s, RepsF.mono x r⟩
  | .exc c, v, h => by
    unfold Rep at h ⊢
    obtain ⟨a, e, s⟩ := h
    exact ⟨a, e, x.at s rfl (fun _ _ z => by cases z)⟩
theorem Reps.mono {K : Frg} {H H' : Hp} (x : Le H H') : ∀ {ds : List D} {vs : List V}, Reps K H ds vs → Reps K H' ds vs
  | [], _, h => h
  | d :: ds, vs, h => by
    unfold Reps at h ⊢
    obtain ⟨v, r, e, h1, h2⟩ := h
    exact ⟨v, r, e, Rep.mono x h1, Reps.mono x h2⟩
theorem RepsT.mono {K : Frg} {H H' : Hp} (x : Le H H') : ∀ {ds : List (List Key × D)} {vs : List (List Key × V)}, RepsT K H ds vs → RepsT K H' ds vs
  | [], _, h => h
  | (k, d) :: ds, vs, h => by
    unfold RepsT at h ⊢
    obtain ⟨v, r, e, h1, h2⟩ := h
    exact ⟨v, r, e, Rep.mono x h1, RepsT.mono x h2⟩
theorem RepsK.mono {K : Frg} {H H' : Hp} (x : Le H H') : ∀ {ds : List (Key × D)} {vs : List (Key × V)}, RepsK K H ds vs → RepsK K H' ds vs
  | [], _, h => h
  | (k, d) :: ds, vs, h => by
    unfold RepsK at h ⊢
    obtain ⟨v, r, e, h1, h2⟩ := h
    exact ⟨v, r, e, Rep.mono x h1, RepsK.mono x h2⟩
theorem RepsF.mono {K : Frg} {H H' : Hp} (x : Le H H') : ∀ {ds : List (Str × D)} {vs : List (Str × V)}, RepsF K H ds vs → RepsF K H' ds vs
  | [], _, h => h
  | (k, d) :: ds, vs, h => by
    unfold RepsF at h ⊢
    obtain ⟨v, r, e, h1, h2⟩ := h
    exact ⟨v, r, e, Rep.mono x h1, RepsF.mono x h2⟩
end

section
variable {K : Frg} {H H' : Hp} {A B : List Addr} {a p : Addr} {o : HO}
theorem Reps.length : ∀ {ds : List D} {vs : List V}, Reps K H ds vs → ds.length = vs.length
  | [], vs, h => by unfold Reps at h; subst h; rfl
  | d :: ds, vs, h => by
    unfold Reps at h
    obtain ⟨v, r, rfl, _, h2⟩ := h
    simp [Reps.length h2]
theorem Reps.get : ∀ {ds : List D} {vs : List V} {i : Nat} {d : D}, Reps K H ds vs → ds[i]? = some d → ∃ v, vs[i]? = some v ∧ Rep K H d v
  | [], _, _, _, _, e => by simp at e
  | d :: ds, vs, 0, d', h, e => by
    unfold Reps at h
    obtain ⟨v, r, rfl, h1, _⟩ := h
    have e' : d = d' := by simpa using e
    subst e'
    exact ⟨v, rfl, h1⟩
  | d :: ds, vs, i + 1, d', h, e => by
    unfold Reps at h
    obtain ⟨v, r, rfl, _, h2⟩ := h
    obtain ⟨u, q, hu⟩ := Reps.get (i := i) h2 (by simpa using e)
    exact ⟨u, by simpa using q, hu⟩
theorem Reps.nil : Reps K H [] [] := by unfold Reps; rfl
theorem Reps.cons {d : D} {ds : List D} {v : V} {vs : List V} (h1 : Rep K H d v) (h2 : Reps K H ds vs) : Reps K H (d :: ds) (v :: vs) := by
  unfold Reps
  exact ⟨v, vs, rfl, h1, h2⟩
theorem Reps.append : ∀ {ds es : List D} {vs ws : List V}, Reps K H ds vs → Reps K H es ws → Reps K H (ds ++ es) (vs ++ ws)
  | [], es, vs, ws, h, h' => by unfold Reps at h; subst h; exact h'
  | d :: ds, es, vs, ws, h, h' => by
    unfold Reps at h
    obtain ⟨v, r, rfl, h1, h2⟩ := h
    exact Reps.cons h1 (Reps.append h2 h')
theorem Reps.set : ∀ {ds : List D} {vs : List V} (i : Nat) {d : D} {v : V}, Reps K H ds vs → Rep K H d v → Reps K H (ds.set i d) (vs.set i v)
  | [], vs, _, _, _, h, _ => by unfold Reps at h; subst h; exact Reps.nil
  | d :: ds, vs, 0, d', v', h, h' => by
    unfold Reps at h
    obtain ⟨v, r, rfl, h1, h2⟩ := h
    exact Reps.cons h' h2
  | d :: ds, vs, i + 1, d', v', h, h' => by
    unfold Reps at h
    obtain ⟨v, r, rfl, h1, h2⟩ := h
    exact Reps.cons h1 (Reps.set i h2 h')
theorem Reps.drop : ∀ {ds : List D} {vs : List V} (n : Nat), Reps K H ds vs → Reps K H (ds.drop n) (vs.drop n)
  | ds, vs, 0, h => h
  | [], vs, n + 1, h => by unfold Reps at h; subst h; exact Reps.nil
  | d :: ds, vs, n + 1, h => by
    unfold Reps at h
    obtain ⟨v, r, rfl, h1, h2⟩ := h
    exact Reps.drop n h2
theorem Reps.take : ∀ {ds : List D} {vs : List V} (n : Nat), Reps K H ds vs → Reps K H (ds.take n) (vs.take n)
  | ds, vs, 0, h => by simp; exact Reps.nil
  | [], vs, n + 1, h => by unfold Reps at h; subst h; exact Reps.nil
  | d :: ds, vs, n + 1, h => by
    unfold Reps at h
    obtain ⟨v, r, rfl, h1, h2⟩ := h
    exact Reps.cons h1 (Reps.take n h2)
theorem Reps.rep {ds : List D} {vs : List V} (h : Reps K H ds vs) : ∀ k : Nat, Reps K H (List.replicate k ds).flatten (List.replicate k vs).flatten
  | 0 => Reps.nil
  | k + 1 => by
    rw [List.replicate_succ, List.replicate_succ, List.flatten_cons, List.flatten_cons]
    exact Reps.append h (Reps.rep h k)
theorem reps_ints : ∀ {ns : List Int}, Reps K H (ns.map D.int) (ns.map V.int)
  | [] => Reps.nil
  | n :: r => Reps.cons (by unfold Rep; rfl) reps_ints
theorem reps_ints_inv : ∀ {ns : List Int} {vs : List V}, Reps K H (ns.map D.int) vs → vs = ns.map V.int
  | [], _, h => by
    unfold Reps at h
    simpa using h
  | n :: r, _, h => by
    simp only [List.map_cons] at h
    unfold Reps at h
    obtain ⟨v, r', rfl, h1, h2⟩ := h
    unfold Rep at h1
    rw [h1, reps_ints_inv h2]
    rfl
theorem reps_strs_inv : ∀ {ns : List Str} {vs : List V}, Reps K H (ns.map D.str) vs → vs = ns.map V.str
  | [], _, h => by
    unfold Reps at h
    simpa using h
  | n :: r, _, h => by
    simp only [List.map_cons] at h
    unfold Reps at h
    obtain ⟨v, r', rfl, h1, h2⟩ := h
    unfold Rep at h1
    rw [h1, reps_strs_inv h2]
    rfl
theorem reps_strs : ∀ {ns : List Str}, Reps K H (ns.map D.str) (ns.map V.str)
  | [] => Reps.nil
  | n :: r => Reps.cons (by unfold Rep; rfl) reps_strs

/-! ### hidden objects -/
def hide (A : List Addr) (H : Hp) : Hp := fun a => if a ∈ A then none else H a
theorem hide_out (h : a ∉ A) : hide A H a = H a := by unfold hide; rw [if_neg h]
theorem hide_in (h : a ∈ A) : hide A H a = none := by unfold hide; rw [if_pos h]
theorem hide_some (h : hide A H a = some o) : a ∉ A ∧ H a = some o := by
  unfold hide at h
  split at h
  · cases h
  · exact ⟨by assumption, h⟩
theorem le_hide : Le (hide A H) H := fun a o h => ⟨o, (hide_some h).2, rfl⟩
theorem le_hide_sub (s : ∀ a ∈ A, a ∈ B) : Le (hide B H) (hide A H) := fun a o h => by
  obtain ⟨h1, h2⟩ := hide_some h
  exact ⟨o, by rw [hide_out fun z => h1 (s a z)]; exact h2, rfl⟩
theorem Le.hide (x : Le H H') : Le (hide A H) (hide A H') := fun a o h => by
  obtain ⟨h1, h2⟩ := hide_some h
  obtain ⟨o', h', e⟩ := x a o h2
  exact ⟨o', by rw [hide_out h1]; exact h', e⟩
theorem le_new (h : H p = none) : Le H (upd H p o) := fun a u e => ⟨u, by rw [upd_ne (ne_of_none e h)]; exact e, rfl⟩
theorem le_new_hide (h : H p = none) : Le (hide A H) (hide (p :: A) (upd H p o)) := fun a u e => by
  obtain ⟨h1, h2⟩ := hide_some e
  have ne : a ≠ p := ne_of_none h2 h
  refine ⟨u, ?_, rfl⟩
  rw [hide_out (by simp only [List.mem_cons, not_or]; exact ⟨ne, h1⟩), upd_ne ne]
  exact h2
theorem hide_upd (h : p ∈ A) : hide A (upd H p o) = hide A H := by
  funext a
  unfold hide
  by_cases ha : a ∈ A
  · rw [if_pos ha, if_pos ha]
  · rw [if_neg ha, if_neg ha]
    exact upd_ne fun z => ha (by rw [z]; exact h)
theorem hide_nil : hide [] H = H := by funext a; unfold hide; simp
end
end DL

end

section
/-! The D layer, 2: environments, judgements. -/
namespace DL
open PySem PySem.Spec PyProof.Rows L2

/-- how a heap goes on, as long as nothing is locked (a place to widen) -/
def Go (H H' : Hp) : Prop := ∀ a o, H a = some o → H' a = some o
theorem Go.refl (H : Hp) : Go H H := fun _ _ h => h
theorem Go.trans {H H1 H2 : Hp} (x : Go H H1) (y : Go H1 H2) : Go H H2 := fun a o h => y a o (x a o h)
theorem Go.le {H H' : Hp} (x : Go H H') : Le H H' := fun a o h => ⟨o, x a o h, rfl⟩
section
variable {H H' H0 : Hp} {A B : List Addr} {a p : Addr} {o : HO}
theorem Go.hide (x : Go H H') : Go (hide A H) (hide A H') := fun a o h => by
  obtain ⟨h1, h2⟩ := hide_some h
  rw [hide_out h1]
  exact x a o h2
theorem go_hide : Go (DL.hide A H) H := fun a o h => (hide_some h).2
theorem go_hide_sub (s : ∀ a ∈ A, a ∈ B) : Go (DL.hide B H) (DL.hide A H) := fun a o h => by
  obtain ⟨h1, h2⟩ := hide_some h
  rw [hide_out fun z => h1 (s a z)]
  exact h2
theorem go_new (h : H p = none) : Go H (upd H p o) := fun a u e => by rw [upd_ne (ne_of_none e h)]; exact e
theorem go_new_hide (h : H p = none) : Go (DL.hide A H) (DL.hide (p :: A) (upd H p o)) := fun a u e => by
  obtain ⟨h1, h2⟩ := hide_some e
  have ne : a ≠ p := ne_of_none h2 h
  rw [hide_out (by simp only [List.mem_cons, not_or]; exact ⟨ne, h1⟩), upd_ne ne]
  exact h2
theorem Go.mut (x : Go H0 H) (h : H0 a = none) : Go H0 (upd H a o) := fun b u e => by
  rw [upd_ne (ne_of_none e h)]
  exact x b u e
theorem Go.same (x : Same H H') : Go H H' := x
theorem Go.isSm (x : Go H H') {u : HO} (h : H a = some u) : ∃ u', H' a = some u' := ⟨u, x a u h⟩
theorem Go.isNn (x : Go H H') (h : H' a = none) : H a = none := x.le.none h
theorem Go.at_lst (x : Go H H') {xs : List V} (h : H a = some (.lst xs)) : H' a = some (.lst xs) := x a _ h
theorem Go.at_dT (x : Go H H') {xs : List (List Key × V)} (h : H a = some (.dT xs)) : H' a = some (.dT xs) := x a _ h
theorem Go.at_dK (x : Go H H') {xs : List (Key × V)} (h : H a = some (.dK xs)) : H' a = some (.dK xs) := x a _ h
theorem Go.at_ins (x : Go H H') {C dx : Addr} {xs : List (Str × V)} (h : H a = some (.ins C dx xs)) : H' a = some (.ins C dx xs) := x a _ h
end

/-! ### environments -/
/-- what was hidden at the start; the address of the instance that is being made -/
structure Bs where
  l : List Addr
  me : Option Addr
instance : Membership Addr Bs := ⟨fun b a => a ∈ b.l⟩
instance : Coe Bs (List Addr) := ⟨Bs.l⟩
/-- a slot: unassigned, shared data, owned data (a list, a dict, an instance that nothing else names) -/
inductive Sl | em | sh (d : D) | ow (d : D)
abbrev DEnv := List Sl
/-- the object at a is d; what is within lies outside of A -/
def Own (K : Frg) (A : List Addr) (H : Hp) : D → Addr → Prop
  | .lst ds, a => ∃ xs, H a = some (.lst xs) ∧ Reps K (hide A H) ds xs
  | .dT kvs, a => ∃ ks, H a = some (.dT ks) ∧ RepsT K (hide A H) kvs ks
  | .dK kvs, a => ∃ ks, H a = some (.dK ks) ∧ RepsK K (hide A H) kvs ks
  | .ins C fs, a => ∃ dx gs, H a = some (.ins (He.ga K C) dx gs) ∧ RepsF K (hide A H) fs gs
  | _, _ => False
theorem Own.mkL {K : Frg} {A : List Addr} {H : Hp} {ds : List D} {a : Addr} {xs : List V} (h : H a = some (.lst xs)) (r : Reps K (hide A H) ds xs) : Own K A H (.lst ds) a := ⟨xs, h, r⟩
theorem Own.go {K : Frg} {A B : List Addr} {H H' : Hp} {d : D} {a : Addr} (x : Own K A H d a) (g : Go H H') (l : Go (hide A H) (hide B H')) : Own K B H' d a := by
  cases d with
  | lst ds => obtain ⟨xs, h, r⟩ := x; exact ⟨xs, g.at_lst h, r.mono l.le⟩
  | dT ds => obtain ⟨xs, h, r⟩ := x; exact ⟨xs, g.at_dT h, r.mono l.le⟩
  | dK ds => obtain ⟨xs, h, r⟩ := x; exact ⟨xs, g.at_dK h, r.mono l.le⟩
  | ins C ds => obtain ⟨dx, xs, h, r⟩ := x; exact ⟨dx, xs, g.at_ins h, r.mono l.le⟩
  | _ => exact False.elim x
/-- the same where the object itself is as it was -/
theorem Own.at {K : Frg} {A B : List Addr} {H H' : Hp} {d : D} {a : Addr} (x : Own K A H d a) (g : H' a = H a) (l : Go (hide A H) (hide B H')) : Own K B H' d a := by
  cases d with
  | lst ds => obtain ⟨xs, h, r⟩ := x; exact ⟨xs, g.trans h, r.mono l.le⟩
  | dT ds => obtain ⟨xs, h, r⟩ := x; exact ⟨xs, g.trans h, r.mono l.le⟩
  | dK ds => obtain ⟨xs, h, r⟩ := x; exact ⟨xs, g.trans h, r.mono l.le⟩
  | ins C ds => obtain ⟨dx, xs, h, r⟩ := x; exact ⟨dx, xs, g.trans h, r.mono l.le⟩
  | _ => exact False.elim x
theorem Own.rep {K : Frg} {A B : List Addr} {H : Hp} {d : D} {a : Addr} (x : Own K A H d a) (hb : a ∉ B) (l : Go (hide A H) (hide B H)) : Rep K (hide B H) d (.ref a) := by
  cases d with
  | lst ds =>
    obtain ⟨xs, h, r⟩ := x
    unfold Rep
    exact ⟨a, xs, rfl, by rw [hide_out hb]; exact h, r.mono l.le⟩
  | dT ds =>
    obtain ⟨xs, h, r⟩ := x
    unfold Rep
    exact ⟨a, xs, rfl, .inl (by rw [hide_out hb]; exact h), r.mono l.le⟩
  | dK ds =>
    obtain ⟨xs, h, r⟩ := x
    unfold Rep
    exact ⟨a, xs, rfl, .inl (by rw [hide_out hb]; exact h), r.mono l.le⟩
  | ins C ds =>
    obtain ⟨dx, xs, h, r⟩ := x
    unfold Rep
    exact ⟨a, dx, xs, rfl, by rw [hide_out hb]; exact h, r.mono l.le⟩
  | _ => exact False.elim x

theorem me_set {ρ : DEnv} {σ : L2.St} {i : Nat} {s : Sl} {w : Option V} {m : Option Addr} (hs : ∀ d, s ≠ .ow d) (x : ∀ p, m = some p → ∀ d, ρ[0]? = some (.ow d) → σ[0]? = some (some (.ref p))) :
    ∀ p, m = some p → ∀ d, (ρ.set i s)[0]? = some (.ow d) → (σ.set i w)[0]? = some (some (.ref p)) := fun p hp d h => by
  by_cases e : i = 0
  · subst e
    rw [List.getElem?_set] at h
    split at h
    · split at h
      · exact absurd (Option.some.inj h) (hs d)
      · cases h
    · simp at *
  · rw [List.getElem?_set_ne e] at h ⊢
    exact x p hp d h
theorem me_setR {ρ : DEnv} {σ : L2.St} {i : Nat} {s : Sl} {m : Option Addr} (hs : ∀ d, s ≠ .ow d) (x : ∀ p, m = some p → ∀ d, ρ[0]? = some (.ow d) → σ[0]? = some (some (.ref p))) :
    ∀ p, m = some p → ∀ d, (ρ.set i s)[0]? = some (.ow d) → σ[0]? = some (some (.ref p)) := fun p hp d h => by
  by_cases e : i = 0
  · subst e
    rw [List.getElem?_set] at h
    split at h
    · split at h
      · exact absurd (Option.some.inj h) (hs d)
      · cases h
    · simp at *
  · rw [List.getElem?_set_ne e] at h
    exact x p hp d h
theorem me_put {ρ : DEnv} {σ : L2.St} {i : Nat} {d0 d' : D} {m : Option Addr} (hi : ρ[i]? = some (.ow d0)) (x : ∀ p, m = some p → ∀ d, ρ[0]? = some (.ow d) → σ[0]? = some (some (.ref p))) :
    ∀ p, m = some p → ∀ d, (ρ.set i (.ow d'))[0]? = some (.ow d) → σ[0]? = some (some (.ref p)) := fun p hp d h => by
  by_cases e : i = 0
  · subst e
    exact x p hp d0 hi
  · rw [List.getElem?_set_ne e] at h
    exact x p hp d h
theorem me_own {ρ : DEnv} {σ : L2.St} {i : Nat} {s : Sl} {w : Option V} {m : Option Addr} (hi : i ≠ 0) (x : ∀ p, m = some p → ∀ d, ρ[0]? = some (.ow d) → σ[0]? = some (some (.ref p))) :
    ∀ p, m = some p → ∀ d, (ρ.set i s)[0]? = some (.ow d) → (σ.set i w)[0]? = some (some (.ref p)) := fun p hp d h => by
  rw [List.getElem?_set_ne hi] at h ⊢
  exact x p hp d h
structure EnvOk (K : Frg) (H0 : Hp) (A0 : Bs) (A : List Addr) (σ : L2.St) (H : Hp) (ρ : DEnv) : Prop where
  len : σ.length = ρ.length
  go0 : Go H0 H
  go1 : Go (hide A0.l H0) (hide A H)
  sub : ∀ a ∈ A0, a ∈ A
  al : ∀ a ∈ A, ∃ o, H a = some o
  fr0 : ∀ a ∈ A, a ∉ A0 → H0 a = none
  sh : ∀ (i : Nat) (d : D), ρ[i]? = some (.sh d) → ∃ v, σ[i]? = some (some v) ∧ Rep K (hide A H) d v
  ow : ∀ (i : Nat) (d : D), ρ[i]? = some (.ow d) → ∃ a, σ[i]? = some (some (.ref a)) ∧ a ∈ A ∧ a ∉ A0 ∧ Own K A H d a
  nd : ∀ (i j : Nat) (d e : D) (a : Addr), ρ[i]? = some (.ow d) → ρ[j]? = some (.ow e) → σ[i]? = some (some (.ref a)) → σ[j]? = some (some (.ref a)) → i = j
  me : ∀ p, A0.me = some p → ∀ d, ρ[0]? = some (.ow d) → σ[0]? = some (some (.ref p))

section
variable {K : Frg} {H0 H H' : Hp} {A0 : Bs} {A : List Addr} {σ : L2.St} {ρ : DEnv} {a p : Addr} {o : HO} {i : Nat} {d : D} {v : V}
theorem EnvOk.noA (x : EnvOk K H0 A0 A σ H ρ) (h : H p = none) : p ∉ A := fun z => by
  obtain ⟨o, e⟩ := x.al p z
  rw [h] at e; cases e
theorem EnvOk.no0 (x : EnvOk K H0 A0 A σ H ρ) (h : H p = none) : H0 p = none := x.go0.isNn h
theorem EnvOk.noA0 (x : EnvOk K H0 A0 A σ H ρ) (h : H p = none) : p ∉ A0 := fun z => x.noA h (x.sub p z)
/-- the heap goes on, the owned stay -/
theorem EnvOk.go (x : EnvOk K H0 A0 A σ H ρ) (g : Go H H') : EnvOk K H0 A0 A σ H' ρ where
  len := x.len
  go0 := x.go0.trans g
  go1 := x.go1.trans g.hide
  sub := x.sub
  al := fun a h => let ⟨o, e⟩ := x.al a h; g.isSm e
  fr0 := x.fr0
  sh := fun i d h => let ⟨v, e, r⟩ := x.sh i d h; ⟨v, e, r.mono g.hide.le⟩
  ow := fun i d h => let ⟨a, e, m, n, r⟩ := x.ow i d h; ⟨a, e, m, n, r.go g g.hide⟩
  nd := x.nd
  me := x.me
/-- a new object, hidden -/
theorem EnvOk.newHid (x : EnvOk K H0 A0 A σ H ρ) (h : H p = none) : EnvOk K H0 A0 (p :: A) σ (upd H p o) ρ where
  len := x.len
  go0 := x.go0.trans (go_new h)
  go1 := x.go1.trans (go_new_hide h)
  sub := fun a m => List.mem_cons_of_mem _ (x.sub a m)
  al := fun a m => by
    rcases List.mem_cons.mp m with rfl | m
    · exact ⟨o, upd_same⟩
    · obtain ⟨u, e⟩ := x.al a m
      exact (go_new h).isSm e
  fr0 := fun a m n => by
    rcases List.mem_cons.mp m with rfl | m
    · exact x.no0 h
    · exact x.fr0 a m n
  sh := fun i d e => let ⟨v, e, r⟩ := x.sh i d e; ⟨v, e, r.mono (go_new_hide h).le⟩
  ow := fun i d e => let ⟨a, e, m, n, r⟩ := x.ow i d e; ⟨a, e, List.mem_cons_of_mem _ m, n, r.go (go_new h) (go_new_hide h)⟩
  nd := x.nd
  me := x.me
theorem EnvOk.setEm (x : EnvOk K H0 A0 A σ H ρ) {w : Option V} : EnvOk K H0 A0 A (σ.set i w) H (ρ.set i .em) where
  len := by simp [x.len]
  go0 := x.go0
  go1 := x.go1
  sub := x.sub
  al := x.al
  fr0 := x.fr0
  sh := fun j d h => by
    by_cases e : i = j
    · subst e
      rw [List.getElem?_set] at h
      split at h
      · split at h <;> cases h
      · simp at *
    · rw [List.getElem?_set_ne e] at h ⊢
      exact x.sh j d h
  ow := fun j d h => by
    by_cases e : i = j
    · subst e
      rw [List.getElem?_set] at h
      split at h
      · split at h <;> cases h
      · simp at *
    · rw [List.getElem?_set_ne e] at h ⊢
      exact x.ow j d h
  nd := fun j k d e b h1 h2 h3 h4 => by
    have n1 : i ≠ j := by
      rintro rfl
      rw [List.getElem?_set] at h1
      split at h1
      · split at h1 <;> cases h1
      · simp at *
    have n2 : i ≠ k := by
      rintro rfl
      rw [List.getElem?_set] at h2
      split at h2
      · split at h2 <;> cases h2
      · simp at *
    rw [List.getElem?_set_ne n1] at h1 h3
    rw [List.getElem?_set_ne n2] at h2 h4
    exact x.nd j k d e b h1 h2 h3 h4
  me := me_set (fun _ z => nomatch z) x.me
theorem EnvOk.setSh (x : EnvOk K H0 A0 A σ H ρ) (r : Rep K (hide A H) d v) : EnvOk K H0 A0 A (σ.set i (some v)) H (ρ.set i (.sh d)) where
  len := by simp [x.len]
  go0 := x.go0
  go1 := x.go1
  sub := x.sub
  al := x.al
  fr0 := x.fr0
  sh := fun j e h => by
    by_cases z : i = j
    · subst z
      have hi : i < ρ.length := by
        by_cases hi : i < ρ.length
        · exact hi
        · rw [List.getElem?_eq_none (by simpa using hi)] at h; cases h
      rw [List.getElem?_set_self hi] at h
      cases h
      exact ⟨v, List.getElem?_set_self (by rw [x.len]; exact hi), r⟩
    · rw [List.getElem?_set_ne z] at h ⊢
      exact x.sh j e h
  ow := fun j e h => by
    by_cases z : i = j
    · subst z
      rw [List.getElem?_set] at h
      split at h
      · split at h <;> cases h
      · simp at *
    · rw [List.getElem?_set_ne z] at h ⊢
      exact x.ow j e h
  nd := fun j k d e b h1 h2 h3 h4 => by
    have n1 : i ≠ j := by
      rintro rfl
      rw [List.getElem?_set] at h1
      split at h1
      · split at h1 <;> cases h1
      · simp at *
    have n2 : i ≠ k := by
      rintro rfl
      rw [List.getElem?_set] at h2
      split at h2
      · split at h2 <;> cases h2
      · simp at *
    rw [List.getElem?_set_ne n1] at h1 h3
    rw [List.getElem?_set_ne n2] at h2 h4
    exact x.nd j k d e b h1 h2 h3 h4
  me := me_set (fun _ z => nomatch z) x.me
/-- no slot owns p -/
def NoSlot (σ : L2.St) (ρ : DEnv) (p : Addr) : Prop := ∀ (i : Nat) (d : D), ρ[i]? = some (.ow d) → σ[i]? ≠ some (some (.ref p))
theorem EnvOk.noSlot (x : EnvOk K H0 A0 A σ H ρ) (h : p ∉ A) : NoSlot σ ρ p := fun i d e q => by
  obtain ⟨a, e1, m, _⟩ := x.ow i d e
  rw [q] at e1
  cases e1
  exact h m
theorem EnvOk.setOw (x : EnvOk K H0 A0 A σ H ρ) (hp : p ∈ A) (h0 : p ∉ A0) (ns : NoSlot σ ρ p) (r : Own K A H d p) (hi0 : i ≠ 0) : EnvOk K H0 A0 A (σ.set i (some (.ref p))) H (ρ.set i (.ow d)) where
  len := by simp [x.len]
  go0 := x.go0
  go1 := x.go1
  sub := x.sub
  al := x.al
  fr0 := x.fr0
  sh := fun j e h => by
    by_cases z : i = j
    · subst z
      rw [List.getElem?_set] at h
      split at h
      · split at h <;> cases h
      · simp at *
    · rw [List.getElem?_set_ne z] at h ⊢
      exact x.sh j e h
  ow := fun j e h => by
    by_cases z : i = j
    · subst z
      have hi : i < ρ.length := by
        by_cases hi : i < ρ.length
        · exact hi
        · rw [List.getElem?_eq_none (by simpa using hi)] at h; cases h
      rw [List.getElem?_set_self hi] at h
      cases h
      exact ⟨p, List.getElem?_set_self (by rw [x.len]; exact hi), hp, h0, r⟩
    · rw [List.getElem?_set_ne z] at h ⊢
      exact x.ow j e h
  nd := fun j k d e b h1 h2 h3 h4 => by
    by_cases z1 : i = j
    · by_cases z2 : i = k
      · exact z1.symm.trans z2
      · subst z1
        have hi : i < σ.length := by
          by_cases hi : i < σ.length
          · exact hi
          · rw [List.getElem?_eq_none (by simpa using hi)] at h3; cases h3
        rw [List.getElem?_set_self hi] at h3
        rw [List.getElem?_set_ne z2] at h2 h4
        cases h3
        exact absurd h4 (ns k e h2)
    · by_cases z2 : i = k
      · subst z2
        have hi : i < σ.length := by
          by_cases hi : i < σ.length
          · exact hi
          · rw [List.getElem?_eq_none (by simpa using hi)] at h4; cases h4
        rw [List.getElem?_set_self hi] at h4
        rw [List.getElem?_set_ne z1] at h1 h3
        cases h4
        exact absurd h3 (ns j d h1)
      · rw [List.getElem?_set_ne z1] at h1 h3
        rw [List.getElem?_set_ne z2] at h2 h4
        exact x.nd j k d e b h1 h2 h3 h4
  me := me_own hi0 x.me
/-- a hidden object that no slot owns comes into the open -/
theorem EnvOk.open_ (x : EnvOk K H0 A0 A σ H ρ) (h0 : p ∉ A0) (ns : NoSlot σ ρ p) : EnvOk K H0 A0 (A.filter (fun b => decide (b ≠ p))) σ H ρ := by
  have s : ∀ b ∈ A.filter (fun b => decide (b ≠ p)), b ∈ A := fun b m => (List.mem_filter.mp m).1
  have g : Go (hide A H) (hide (A.filter (fun b => decide (b ≠ p))) H) := go_hide_sub s
  exact ⟨x.len, x.go0, x.go1.trans g, fun b m => List.mem_filter.mpr ⟨x.sub b m, by simp; rintro rfl; exact h0 m⟩, fun b m => x.al b (s b m), fun b m n => x.fr0 b (s b m) n,
    fun i d h => let ⟨v, e, r⟩ := x.sh i d h; ⟨v, e, r.mono g.le⟩,
    fun i d h => let ⟨a, e, m, n, r⟩ := x.ow i d h; ⟨a, e, List.mem_filter.mpr ⟨m, by simp; rintro rfl; exact ns i d h e⟩, n, r.at rfl g⟩, x.nd, x.me⟩
/-- an owned slot becomes a shared one -/
theorem EnvOk.esc (x : EnvOk K H0 A0 A σ H ρ) (h : ρ[i]? = some (.ow d)) (e : σ[i]? = some (some (.ref p))) :
    EnvOk K H0 A0 (A.filter (fun b => decide (b ≠ p))) σ H (ρ.set i (.sh d)) ∧ Rep K (hide (A.filter (fun b => decide (b ≠ p))) H) d (.ref p) ∧ Go (hide A H) (hide (A.filter (fun b => decide (b ≠ p))) H) := by
  obtain ⟨a, e1, m, n, r⟩ := x.ow i d h
  rw [e] at e1
  cases e1
  have s : ∀ b ∈ A.filter (fun b => decide (b ≠ p)), b ∈ A := fun b m => (List.mem_filter.mp m).1
  have g : Go (hide A H) (hide (A.filter (fun b => decide (b ≠ p))) H) := go_hide_sub s
  have hp : p ∉ A.filter (fun b => decide (b ≠ p)) := fun z => by simpa using (List.mem_filter.mp z).2
  have hi : i < ρ.length := (List.getElem?_eq_some_iff.mp h).1
  have rp := r.rep hp g
  refine ⟨⟨by simp [x.len], x.go0, x.go1.trans g, fun b m' => List.mem_filter.mpr ⟨x.sub b m', by simp; intro z; exact n (z ▸ m')⟩, fun b m => x.al b (s b m), fun b m n => x.fr0 b (s b m) n, fun j c q => ?_, fun j c q => ?_, fun j k c c' b h1 h2 h3 h4 => ?_, me_setR (fun _ z => nomatch z) x.me⟩, rp, g⟩
  · by_cases z : i = j
    · subst z
      rw [List.getElem?_set_self hi] at q
      cases q
      exact ⟨_, e, rp⟩
    · rw [List.getElem?_set_ne z] at q
      obtain ⟨v, e2, r2⟩ := x.sh j c q
      exact ⟨v, e2, r2.mono g.le⟩
  · by_cases z : i = j
    · subst z
      rw [List.getElem?_set_self hi] at q
      cases q
    · rw [List.getElem?_set_ne z] at q
      obtain ⟨b, e2, m2, n2, r2⟩ := x.ow j c q
      refine ⟨b, e2, List.mem_filter.mpr ⟨m2, ?_⟩, n2, r2.at rfl g⟩
      simp
      rintro rfl
      exact z (x.nd i j d c b h q e e2)
  · have n1 : i ≠ j := by
      rintro rfl
      rw [List.getElem?_set_self hi] at h1
      cases h1
    have n2 : i ≠ k := by
      rintro rfl
      rw [List.getElem?_set_self hi] at h2
      cases h2
    rw [List.getElem?_set_ne n1] at h1
    rw [List.getElem?_set_ne n2] at h2
    exact x.nd j k c c' b h1 h2 h3 h4
/-- an owned object changes -/
theorem EnvOk.put (x : EnvOk K H0 A0 A σ H ρ) {d' : D} (h : ρ[i]? = some (.ow d)) (e : σ[i]? = some (some (.ref p))) (r : Own K A (upd H p o) d' p) :
    EnvOk K H0 A0 A σ (upd H p o) (ρ.set i (.ow d')) ∧ Go (hide A H) (hide A (upd H p o)) := by
  obtain ⟨a, e1, m, n, r0⟩ := x.ow i d h
  rw [e] at e1
  cases e1
  have g : Go (hide A H) (hide A (upd H p o)) := by rw [hide_upd m]; exact Go.refl _
  have hi : i < ρ.length := (List.getElem?_eq_some_iff.mp h).1
  refine ⟨⟨by simp [x.len], x.go0.mut (x.fr0 p m n), x.go1.trans g, x.sub, fun b hb => ?_, x.fr0, fun j c q => ?_, fun j c q => ?_, fun j k c c' b h1 h2 h3 h4 => ?_, me_put h x.me⟩, g⟩
  · by_cases z : b = p
    · subst z; exact ⟨o, upd_same⟩
    · rw [upd_ne z]; exact x.al b hb
  · by_cases z : i = j
    · subst z
      rw [List.getElem?_set_self hi] at q
      cases q
    · rw [List.getElem?_set_ne z] at q
      obtain ⟨v, e2, r2⟩ := x.sh j c q
      exact ⟨v, e2, r2.mono g.le⟩
  · by_cases z : i = j
    · subst z
      rw [List.getElem?_set_self hi] at q
      cases q
      exact ⟨p, e, m, n, r⟩
    · rw [List.getElem?_set_ne z] at q
      obtain ⟨b, e2, m2, n2, r2⟩ := x.ow j c q
      refine ⟨b, e2, m2, n2, r2.at (upd_ne ?_) g⟩
      rintro rfl
      exact z (x.nd i j d c b h q e e2)
  · by_cases z1 : i = j
    · by_cases z2 : i = k
      · exact z1.symm.trans z2
      · rw [List.getElem?_set_ne z2] at h2
        subst z1
        rw [e] at h3
        cases h3
        exact x.nd i k d c' p h h2 e h4
    · rw [List.getElem?_set_ne z1] at h1
      by_cases z2 : i = k
      · subst z2
        rw [e] at h4
        cases h4
        exact x.nd j i c d p h1 h h3 e
      · rw [List.getElem?_set_ne z2] at h2
        exact x.nd j k c c' b h1 h2 h3 h4
end

/-! ### readings over data -/
abbrev XD := Str → DEnv → Prop
abbrev DG (α : Type) := DEnv → (α → DEnv → Prop) → XD → Prop
abbrev DTE := DG D
abbrev DTT := DG Bool
abbrev DTA := DG (List D)
abbrev DTO := DG (Option Int)
/-- what holds behind: the environment, how the heap went on -/
structure Aft (K : Frg) (H0 : Hp) (A0 : Bs) (A : List Addr) (H : Hp) (A' : List Addr) (σ : L2.St) (H' : Hp) (ρ' : DEnv) : Prop where
  ok : EnvOk K H0 A0 A' σ H' ρ'
  go : Go (hide A H) (hide A' H')
theorem Aft.trans {K : Frg} {H0 H H1 H2 : Hp} {A0 : Bs} {A A1 A2 : List Addr} {σ σ' : L2.St} {ρ ρ' : DEnv} (x : Aft K H0 A0 A H A1 σ H1 ρ) (y : Aft K H0 A0 A1 H1 A2 σ' H2 ρ') : Aft K H0 A0 A H A2 σ' H2 ρ' := ⟨y.ok, x.go.trans y.go⟩
theorem EnvOk.aft {K : Frg} {H0 H : Hp} {A0 : Bs} {A : List Addr} {σ : L2.St} {ρ : DEnv} (x : EnvOk K H0 A0 A σ H ρ) : Aft K H0 A0 A H A σ H ρ := ⟨x, Go.refl _⟩
/-- .. behind an expression: nothing that stood is changed -/
structure AfE (K : Frg) (H0 : Hp) (A0 : Bs) (A : List Addr) (H : Hp) (A' : List Addr) (σ : L2.St) (H' : Hp) (ρ' : DEnv) : Prop where
  ok : EnvOk K H0 A0 A' σ H' ρ'
  go : Go (hide A H) (hide A' H')
  gf : Go H H'
theorem AfE.trans {K : Frg} {H0 H H1 H2 : Hp} {A0 : Bs} {A A1 A2 : List Addr} {σ σ' : L2.St} {ρ ρ' : DEnv} (x : AfE K H0 A0 A H A1 σ H1 ρ) (y : AfE K H0 A0 A1 H1 A2 σ' H2 ρ') : AfE K H0 A0 A H A2 σ' H2 ρ' := ⟨y.ok, x.go.trans y.go, x.gf.trans y.gf⟩
theorem AfE.aft {K : Frg} {H0 H H1 : Hp} {A0 : Bs} {A A1 : List Addr} {σ : L2.St} {ρ : DEnv} (x : AfE K H0 A0 A H A1 σ H1 ρ) : Aft K H0 A0 A H A1 σ H1 ρ := ⟨x.ok, x.go⟩
theorem EnvOk.afe {K : Frg} {H0 H : Hp} {A0 : Bs} {A : List Addr} {σ : L2.St} {ρ : DEnv} (x : EnvOk K H0 A0 A σ H ρ) : AfE K H0 A0 A H A σ H ρ := ⟨x, Go.refl _, Go.refl _⟩
theorem AfE.more {K : Frg} {H0 H H1 H2 : Hp} {A0 : Bs} {A A1 : List Addr} {σ : L2.St} {ρ : DEnv} (x : AfE K H0 A0 A H A1 σ H1 ρ) (g : Go H1 H2) : AfE K H0 A0 A H A1 σ H2 ρ := ⟨x.ok.go g, x.go.trans g.hide, x.gf.trans g⟩
/-- sound: a reading over data leads to the reading over the heap -/
def Snd {α β : Type} (K : Frg) (W : WX) (R : List Addr → Hp → α → β → Prop) (te : L2.St → Hp → (β → Hp → Prop) → Prop) (t : DG α) : Prop :=
  ∀ (H0 : Hp) (A0 : Bs) (A : List Addr) (σ : L2.St) (H : Hp) (ρ : DEnv) (Q : α → DEnv → Prop) (E : XD) (Qr : β → Hp → Prop), EnvOk K H0 A0 A σ H ρ → t ρ Q E →
    (∀ d ρ' v H' A', AfE K H0 A0 A H A' σ H' ρ' → R A' H' d v → Q d ρ' → Qr v H') →
    (∀ c ρ' H' A', AfE K H0 A0 A H A' σ H' ρ' → E c ρ' → W (.ref (He.ga K c)) none σ H') → te σ H Qr
/-- the value itself may be hidden, what is within lies in the open -/
def RepB (K : Frg) (A : List Addr) (H : Hp) : D → V → Prop
  | .lst ds, v => ∃ a xs, v = .ref a ∧ H a = some (.lst xs) ∧ Reps K (hide A H) ds xs
  | .fz ds, v => ∃ a xs, v = .ref a ∧ SqL K H a xs ∧ Reps K (hide A H) ds xs
  | .tup ds, v => ∃ a xs, v = .ref a ∧ SqT K H a xs ∧ Reps K (hide A H) ds xs
  | .dT ds, v => ∃ a xs, v = .ref a ∧ Rd H a (.dT xs) ∧ RepsT K (hide A H) ds xs
  | .dK ds, v => ∃ a xs, v = .ref a ∧ Rd H a (.dK xs) ∧ RepsK K (hide A H) ds xs
  | .ins C fs, v => ∃ a dx gs, v = .ref a ∧ H a = some (.ins (He.ga K C) dx gs) ∧ RepsF K (hide A H) fs gs
  | d, v => Rep K (hide A H) d v
theorem Rep.b {K : Frg} {A : List Addr} {H : Hp} {d : D} {v : V} (h : Rep K (hide A H) d v) : RepB K A H d v := by
  have l : Le (hide A H) H := le_hide
  cases d with
  | lst ds => unfold Rep at h; obtain ⟨a, xs, e, s, r⟩ := h; exact ⟨a, xs, e, l.lst s, r⟩
  | fz ds => unfold Rep at h; obtain ⟨a, xs, e, s, r⟩ := h; exact ⟨a, xs, e, l.seq s, r⟩
  | tup ds => unfold Rep at h; obtain ⟨a, xs, e, s, r⟩ := h; exact ⟨a, xs, e, l.sqt s, r⟩
  | dT ds => unfold Rep at h; obtain ⟨a, xs, e, s, r⟩ := h; exact ⟨a, xs, e, l.rdD s rfl, r⟩
  | dK ds => unfold Rep at h; obtain ⟨a, xs, e, s, r⟩ := h; exact ⟨a, xs, e, l.rdD s rfl, r⟩
  | ins C ds => unfold Rep at h; obtain ⟨a, dx, xs, e, s, r⟩ := h; exact ⟨a, dx, xs, e, l.ins s, r⟩
  | _ => exact h
theorem RepB.go {K : Frg} {A B : List Addr} {H H' : Hp} {d : D} {v : V} (h : RepB K A H d v) (g : Go H H') (l : Go (hide A H) (hide B H')) : RepB K B H' d v := by
  cases d with
  | lst ds => obtain ⟨a, xs, e, s, r⟩ := h; exact ⟨a, xs, e, g.le.lst s, r.mono l.le⟩
  | fz ds => obtain ⟨a, xs, e, s, r⟩ := h; exact ⟨a, xs, e, g.le.seq s, r.mono l.le⟩
  | tup ds => obtain ⟨a, xs, e, s, r⟩ := h; exact ⟨a, xs, e, g.le.sqt s, r.mono l.le⟩
  | dT ds => obtain ⟨a, xs, e, s, r⟩ := h; exact ⟨a, xs, e, g.le.rdD s rfl, r.mono l.le⟩
  | dK ds => obtain ⟨a, xs, e, s, r⟩ := h; exact ⟨a, xs, e, g.le.rdD s rfl, r.mono l.le⟩
  | ins C ds => obtain ⟨a, dx, xs, e, s, r⟩ := h; exact ⟨a, dx, xs, e, g.le.ins s, r.mono l.le⟩
  | _ => exact Rep.mono l.le h
theorem Own.b {K : Frg} {A : List Addr} {H : Hp} {d : D} {a : Addr} (x : Own K A H d a) : RepB K A H d (.ref a) := by
  cases d with
  | lst ds => obtain ⟨xs, h, r⟩ := x; exact ⟨a, xs, rfl, h, r⟩
  | dT ds => obtain ⟨xs, h, r⟩ := x; exact ⟨a, xs, rfl, .inl h, r⟩
  | dK ds => obtain ⟨xs, h, r⟩ := x; exact ⟨a, xs, rfl, .inl h, r⟩
  | ins C ds => obtain ⟨dx, xs, h, r⟩ := x; exact ⟨a, dx, xs, rfl, h, r⟩
  | _ => exact False.elim x
def RepBs (K : Frg) (A : List Addr) (H : Hp) : List D → List V → Prop
  | [], vs => vs = []
  | d :: ds, vs => ∃ v r, vs = v :: r ∧ RepB K A H d v ∧ RepBs K A H ds r
theorem RepBs.cons {K : Frg} {A : List Addr} {H : Hp} {d : D} {ds : List D} {v : V} {vs : List V} (h1 : RepB K A H d v) (h2 : RepBs K A H ds vs) : RepBs K A H (d :: ds) (v :: vs) := ⟨v, vs, rfl, h1, h2⟩
theorem RepBs.go {K : Frg} {A B : List Addr} {H H' : Hp} (g : Go H H') (l : Go (hide A H) (hide B H')) : ∀ {ds : List D} {vs : List V}, RepBs K A H ds vs → RepBs K B H' ds vs
  | [], _, h => h
  | d :: ds, _, h => let ⟨v, r, e, h1, h2⟩ := h; ⟨v, r, e, h1.go g l, RepBs.go g l h2⟩
theorem Reps.b {K : Frg} {A : List Addr} {H : Hp} : ∀ {ds : List D} {vs : List V}, Reps K (hide A H) ds vs → RepBs K A H ds vs
  | [], _, h => by unfold Reps at h; exact h
  | d :: ds, _, h => by
    unfold Reps at h
    obtain ⟨v, r, e, h1, h2⟩ := h
    exact ⟨v, r, e, h1.b, Reps.b h2⟩
abbrev SndE (K : Frg) (W : WX) (te : TE) (t : DTE) : Prop := Snd K W (fun A H d v => Rep K (hide A H) d v) te t
abbrev SndB (K : Frg) (W : WX) (te : TE) (t : DTE) : Prop := Snd K W (fun A H d v => RepB K A H d v) te t
abbrev SndT (K : Frg) (W : WX) (te : TT) (t : DTT) : Prop := Snd K W (fun _ _ b c => c = b) te t
abbrev SndA (K : Frg) (W : WX) (te : TA) (t : DTA) : Prop := Snd K W (fun A H d v => Reps K (hide A H) d v) te t
abbrev SndAB (K : Frg) (W : WX) (te : TA) (t : DTA) : Prop := Snd K W (fun A H d v => RepBs K A H d v) te t
abbrev SndO (K : Frg) (W : WX) (te : TO) (t : DTO) : Prop := Snd K W (fun _ _ b c => c = b) te t
/-- a fresh object -/
def SndF (K : Frg) (W : WX) (te : TE) (t : DTE) : Prop :=
  ∀ (H0 : Hp) (A0 : Bs) (A : List Addr) (σ : L2.St) (H : Hp) (ρ : DEnv) (Q : D → DEnv → Prop) (E : XD) (Qr : VK), EnvOk K H0 A0 A σ H ρ → t ρ Q E →
    (∀ d ρ' p H' A', AfE K H0 A0 A H A' σ H' ρ' → p ∈ A' → p ∉ A0 → NoSlot σ ρ' p → Own K A' H' d p → Q d ρ' → Qr (.ref p) H') →
    (∀ c ρ' H' A', AfE K H0 A0 A H A' σ H' ρ' → E c ρ' → W (.ref (He.ga K c)) none σ H') → te σ H Qr
theorem not_mem_filter {A : List Addr} {p : Addr} : p ∉ A.filter (fun b => decide (b ≠ p)) := fun z => by simpa using (List.mem_filter.mp z).2
theorem go_filter {A : List Addr} {p : Addr} {H : Hp} : Go (hide A H) (hide (A.filter (fun b => decide (b ≠ p))) H) := go_hide_sub fun b m => (List.mem_filter.mp m).1
theorem SndF.e {K : Frg} {W : WX} {te : TE} {t : DTE} (h : SndF K W te t) : SndE K W te t := fun H0 A0 A σ H ρ Q E Qr x ht q e =>
  h H0 A0 A σ H ρ Q E Qr x ht (fun d ρ' p H' A' af hp h0 ns r hq => q d ρ' _ H' _ ⟨af.ok.open_ h0 ns, af.go.trans go_filter, af.gf⟩ (r.rep not_mem_filter go_filter) hq) e
/-- the judgements -/
structure DE (X : Cx) (W : WX) (e : Expr) (te : TE) (t : DTE) : Prop where
  pe : PE X e te
  sn : SndE X.K W te t
structure DF (X : Cx) (W : WX) (e : Expr) (te : TE) (t : DTE) : Prop where
  pe : PE X e te
  sn : SndF X.K W te t
theorem DF.e {X : Cx} {W : WX} {e : Expr} {te : TE} {t : DTE} (h : DF X W e te t) : DE X W e te t := ⟨h.pe, h.sn.e⟩
structure DB (X : Cx) (W : WX) (e : Expr) (te : TE) (t : DTE) : Prop where
  pe : PE X e te
  sn : SndB X.K W te t
theorem DE.b {X : Cx} {W : WX} {e : Expr} {te : TE} {t : DTE} (h : DE X W e te t) : DB X W e te t := ⟨h.pe, fun H0 A0 A σ H ρ Q E Qr x ht q e =>
  h.sn H0 A0 A σ H ρ Q E Qr x ht (fun d ρ' v H' A' af r hq => q d ρ' v H' A' af r.b hq) e⟩
theorem DF.b {X : Cx} {W : WX} {e : Expr} {te : TE} {t : DTE} (h : DF X W e te t) : DB X W e te t := h.e.b
structure DAB (X : Cx) (W : WX) (es : List Expr) (te : TA) (t : DTA) : Prop where
  pe : PA X es te
  sn : SndAB X.K W te t
structure DT (X : Cx) (W : WX) (e : Expr) (te : TT) (t : DTT) : Prop where
  pe : PT X e te
  sn : SndT X.K W te t
structure DW (X : Cx) (W : WX) (e : Expr) (te : TT) (t : DTT) : Prop where
  pe : PW X e te
  sn : SndT X.K W te t
theorem DW.t {X : Cx} {W : WX} {e : Expr} {te : TT} {t : DTT} (h : DW X W e te t) : DT X W e te t := ⟨h.pe.pt, h.sn⟩
structure DA (X : Cx) (W : WX) (es : List Expr) (te : TA) (t : DTA) : Prop where
  pe : PA X es te
  sn : SndA X.K W te t
structure DO (X : Cx) (W : WX) (e : Option Expr) (te : TO) (t : DTO) : Prop where
  pe : PO X e te
  sn : SndO X.K W te t
/-! ### statements -/
structure DEnds where
  nx : DEnv → Prop
  rt : D → Prop
  ex : XD := fun _ _ => False
  bk : DEnv → Prop := fun _ => False
  ct : DEnv → Prop := fun _ => False
abbrev DTS := DEnds → DEnv → Prop
/-- the ends over data lead to the ends over the heap; fr: what is returned is fresh -/
structure Lift (K : Frg) (W : WX) (fr : Bool) (H0 : Hp) (A0 : Bs) (A : List Addr) (H : Hp) (DD : DEnds) (D : Ends) : Prop where
  nx : ∀ ρ' σ' H' A', Aft K H0 A0 A H A' σ' H' ρ' → DD.nx ρ' → D.nx σ' H'
  rt : ∀ d ρ' σ' v H' A', Aft K H0 A0 A H A' σ' H' ρ' → (fr = true → ∃ p, v = .ref p ∧ p ∈ A' ∧ p ∉ A0 ∧ NoSlot σ' ρ' p ∧ Own K A' H' d p) → (fr = false → Rep K (hide A' H') d v) → DD.rt d → D.rt v H'
  bk : ∀ ρ' σ' H' A', Aft K H0 A0 A H A' σ' H' ρ' → DD.bk ρ' → D.bk σ' H'
  ct : ∀ ρ' σ' H' A', Aft K H0 A0 A H A' σ' H' ρ' → DD.ct ρ' → D.ct σ' H'
  ex : ∀ c ρ' σ' H' A', Aft K H0 A0 A H A' σ' H' ρ' → DD.ex c ρ' → W (.ref (He.ga K c)) none σ' H'
theorem Lift.from {K : Frg} {W : WX} {fr : Bool} {H0 H H1 : Hp} {A0 : Bs} {A A1 : List Addr} {σ : L2.St} {ρ : DEnv} {DD : DEnds} {D : Ends} (l : Lift K W fr H0 A0 A H DD D) (x : Aft K H0 A0 A H A1 σ H1 ρ) : Lift K W fr H0 A0 A1 H1 DD D :=
  ⟨fun _ _ _ _ y => l.nx _ _ _ _ ⟨y.ok, x.go.trans y.go⟩, fun _ _ _ _ _ _ y => l.rt _ _ _ _ _ _ ⟨y.ok, x.go.trans y.go⟩, fun _ _ _ _ y => l.bk _ _ _ _ ⟨y.ok, x.go.trans y.go⟩, fun _ _ _ _ y => l.ct _ _ _ _ ⟨y.ok, x.go.trans y.go⟩, fun _ _ _ _ _ y => l.ex _ _ _ _ _ ⟨y.ok, x.go.trans y.go⟩⟩
def SndS (K : Frg) (W : WX) (fr : Bool) (ts : TS) (t : DTS) : Prop :=
  ∀ (H0 : Hp) (A0 : Bs) (A : List Addr) (σ : L2.St) (H : Hp) (ρ : DEnv) (DD : DEnds) (D : Ends), EnvOk K H0 A0 A σ H ρ → t DD ρ → Lift K W fr H0 A0 A H DD D → ts D σ H
structure DS (X : Cx) (W : WX) (fr : Bool) (st : Stmt) (ts : TS) (t : DTS) : Prop where
  ps : PS X st ts
  sn : SndS X.K W fr ts t
structure DSs (X : Cx) (W : WX) (fr : Bool) (st : List Stmt) (ts : TS) (t : DTS) : Prop where
  ps : PSs X st ts
  sn : SndS X.K W fr ts t
end DL

end

section
/-! The D layer, 3: expressions. -/
namespace DL
open PySem PySem.Spec PyProof.Rows L2

/-! ### slots -/
def nth : DEnv → Nat → Sl
  | [], _ => .em
  | s :: _, 0 => s
  | _ :: r, n + 1 => nth r n
theorem nth_sh : ∀ {ρ : DEnv} {i : Nat} {d : D}, nth ρ i = .sh d → ρ[i]? = some (.sh d)
  | [], _, _, h => by cases h
  | s :: _, 0, _, h => by have e : s = _ := h; simp [e]
  | _ :: r, n + 1, _, h => by simpa using nth_sh (ρ := r) (i := n) h
theorem nth_ow : ∀ {ρ : DEnv} {i : Nat} {d : D}, nth ρ i = .ow d → ρ[i]? = some (.ow d)
  | [], _, _, h => by cases h
  | s :: _, 0, _, h => by have e : s = _ := h; simp [e]
  | _ :: r, n + 1, _, h => by simpa using nth_ow (ρ := r) (i := n) h
/-- a name's value, from then on shared -/
def dVar (i : Nat) : DTE := fun ρ Q _ => match nth ρ i with
  | .sh d => Q d ρ
  | .ow d => Q d (ρ.set i (.sh d))
  | .em => False
/-- a name's value, looked at only -/
def dBor (i : Nat) : DTE := fun ρ Q _ => match nth ρ i with
  | .sh d => Q d ρ
  | .ow d => Q d ρ
  | .em => False
/-- an owned name's value, given away -/
def dGive (i : Nat) : DTE := fun ρ Q _ => match nth ρ i with
  | .ow d => Q d (ρ.set i .em)
  | _ => False
def dC (d : D) : DTE := fun ρ Q _ => Q d ρ
section
variable {K : Frg} {W : WX}
theorem sn_var {i : Nat} : SndE K W (tVar i) (dVar i) := fun H0 A0 A σ H ρ Q E Qr x ht q e => by
  unfold dVar at ht
  cases hn : nth ρ i with
  | em => rw [hn] at ht; exact ht.elim
  | sh d =>
    rw [hn] at ht
    obtain ⟨v, e1, r⟩ := x.sh i d (nth_sh hn)
    exact ⟨v, e1, q d ρ v H A x.afe r ht⟩
  | ow d =>
    rw [hn] at ht
    obtain ⟨a, e1, m, n, r⟩ := x.ow i d (nth_ow hn)
    obtain ⟨x1, r1, g1⟩ := x.esc (nth_ow hn) e1
    exact ⟨_, e1, q d _ _ H _ ⟨x1, g1, Go.refl _⟩ r1 ht⟩
theorem sn_bor {i : Nat} : SndB K W (tVar i) (dBor i) := fun H0 A0 A σ H ρ Q E Qr x ht q e => by
  unfold dBor at ht
  cases hn : nth ρ i with
  | em => rw [hn] at ht; exact ht.elim
  | sh d =>
    rw [hn] at ht
    obtain ⟨v, e1, r⟩ := x.sh i d (nth_sh hn)
    exact ⟨v, e1, q d ρ v H A x.afe r.b ht⟩
  | ow d =>
    rw [hn] at ht
    obtain ⟨a, e1, m, n, r⟩ := x.ow i d (nth_ow hn)
    exact ⟨_, e1, q d _ _ H _ x.afe r.b ht⟩
theorem EnvOk.setEmS {H0 H : Hp} {A0 : Bs} {A : List Addr} {σ : L2.St} {ρ : DEnv} {i : Nat} (x : EnvOk K H0 A0 A σ H ρ) : EnvOk K H0 A0 A σ H (ρ.set i .em) where
  len := by simp [x.len]
  go0 := x.go0
  go1 := x.go1
  sub := x.sub
  al := x.al
  fr0 := x.fr0
  sh := fun j d h => by
    by_cases e : i = j
    · subst e
      rw [List.getElem?_set] at h
      split at h
      · split at h <;> cases h
      · simp at *
    · rw [List.getElem?_set_ne e] at h
      exact x.sh j d h
  ow := fun j d h => by
    by_cases e : i = j
    · subst e
      rw [List.getElem?_set] at h
      split at h
      · split at h <;> cases h
      · simp at *
    · rw [List.getElem?_set_ne e] at h
      exact x.ow j d h
  nd := fun j k d e b h1 h2 h3 h4 => by
    have n1 : i ≠ j := by
      rintro rfl
      rw [List.getElem?_set] at h1
      split at h1
      · split at h1 <;> cases h1
      · simp at *
    have n2 : i ≠ k := by
      rintro rfl
      rw [List.getElem?_set] at h2
      split at h2
      · split at h2 <;> cases h2
      · simp at *
    rw [List.getElem?_set_ne n1] at h1
    rw [List.getElem?_set_ne n2] at h2
    exact x.nd j k d e b h1 h2 h3 h4
  me := me_setR (fun _ z => nomatch z) x.me
theorem sn_give {i : Nat} : SndF K W (tVar i) (dGive i) := fun H0 A0 A σ H ρ Q E Qr x ht q e => by
  unfold dGive at ht
  cases hn : nth ρ i with
  | em => rw [hn] at ht; exact ht.elim
  | sh d => rw [hn] at ht; exact ht.elim
  | ow d =>
    rw [hn] at ht
    obtain ⟨a, e1, m, n, r⟩ := x.ow i d (nth_ow hn)
    refine ⟨_, e1, q d _ a H A ⟨x.setEmS, Go.refl _, Go.refl _⟩ m n (fun j c h1 h2 => ?_) r ht⟩
    by_cases z : i = j
    · subst z
      rw [List.getElem?_set] at h1
      split at h1
      · split at h1 <;> cases h1
      · simp at *
    · rw [List.getElem?_set_ne z] at h1
      exact z (x.nd i j d c a (nth_ow hn) h1 e1 h2)
/-- a constant of any place -/
theorem sn_c {d : D} {v : V} (h : ∀ H, Rep K H d v) : SndE K W (tC v) (dC d) := fun H0 A0 A σ H ρ Q E Qr x ht q e => q d ρ v H A x.afe (h _) ht
theorem rep_int {H : Hp} {i : Int} : Rep K H (.int i) (.int i) := by unfold Rep; rfl
theorem rep_str {H : Hp} {i : Str} : Rep K H (.str i) (.str i) := by unfold Rep; rfl
theorem rep_bl {H : Hp} {i : Bool} : Rep K H (.bl i) (.bl i) := by unfold Rep; rfl
theorem rep_non {H : Hp} : Rep K H .non .non := by unfold Rep; rfl
end
section
variable {X : Cx} {W : WX} {pos : Pos}
theorem de_var (i : Nat) {x : Str} (hN : X.N[i]? = some x := by rfl) (hv : Vis X.env.scope x := by first | exact Or.inl rfl | exact Or.inr (Or.inl rfl) | exact Or.inr (Or.inr rfl)) (hd : (x == ("__debug__" : Str)) = false := by decide)
    (hcd : (x == ("__classdict__" : Str)) = false := by decide) : DE X W (.Name x pos) (tVar i) (dVar i) := ⟨pe_var hN hv hd hcd, sn_var⟩
theorem db_var (i : Nat) {x : Str} (hN : X.N[i]? = some x := by rfl) (hv : Vis X.env.scope x := by first | exact Or.inl rfl | exact Or.inr (Or.inl rfl) | exact Or.inr (Or.inr rfl)) (hd : (x == ("__debug__" : Str)) = false := by decide)
    (hcd : (x == ("__classdict__" : Str)) = false := by decide) : DB X W (.Name x pos) (tVar i) (dBor i) := ⟨pe_var hN hv hd hcd, sn_bor⟩
theorem df_var (i : Nat) {x : Str} (hN : X.N[i]? = some x := by rfl) (hv : Vis X.env.scope x := by first | exact Or.inl rfl | exact Or.inr (Or.inl rfl) | exact Or.inr (Or.inr rfl)) (hd : (x == ("__debug__" : Str)) = false := by decide)
    (hcd : (x == ("__classdict__" : Str)) = false := by decide) : DF X W (.Name x pos) (tVar i) (dGive i) := ⟨pe_var hN hv hd hcd, sn_give⟩
theorem de_int {i : Int} {j} : DE X W (.Constant (.int i) j pos) (tC (.int i)) (dC (.int i)) := ⟨pe_int, sn_c fun _ => rep_int⟩
theorem de_bl {i : Bool} {j} : DE X W (.Constant (.bool i) j pos) (tC (.bl i)) (dC (.bl i)) := ⟨pe_bl, sn_c fun _ => rep_bl⟩
theorem de_non {j} : DE X W (.Constant .none j pos) (tC .non) (dC .non) := ⟨pe_non, sn_c fun _ => rep_non⟩
theorem de_str {i : Str} {j} : DE X W (.Constant (.str i) j pos) (tC (.str i)) (dC (.str i)) := ⟨pe_str, sn_c fun _ => rep_str⟩
/-- a module's constant -/
theorem de_globI {x : Str} {i : Int} {t : Tok} (hg : Gl X x) (hm : X.mg x = some (.int i t)) (hd : (x == ("__debug__" : Str)) = false := by decide) : DE X W (.Name x pos) (tC (.int i)) (dC (.int i)) := ⟨pe_glob hg hm ⟨t, rfl⟩ hd, sn_c fun _ => rep_int⟩
theorem de_globS {x : Str} {i : Str} {t : Tok} (hg : Gl X x) (hm : X.mg x = some (.str i t)) (hd : (x == ("__debug__" : Str)) = false := by decide) : DE X W (.Name x pos) (tC (.str i)) (dC (.str i)) := ⟨pe_glob hg hm ⟨t, rfl⟩ hd, sn_c fun _ => rep_str⟩
end

/-! ### operations on two values -/
abbrev Op2 := D → D → (D → Prop) → Prop
def OpS (K : Frg) (r : R2) (op : Op2) : Prop := ∀ (B : List Addr) (H : Hp) (x y : V) (d e : D) (P : D → Prop) (Q : VK), (∀ p, H p = none → p ∉ B) → RepB K B H d x → RepB K B H e y → op d e P →
  (∀ c z H', Go H H' → Rep K (hide B H') c z → P c → Q z H') → r x y H Q
def dOp (op : Op2) (da db : DTE) : DTE := fun ρ Q E => da ρ (fun d ρ1 => db ρ1 (fun e ρ2 => op d e fun c => Q c ρ2) E) E
theorem sn_op {K : Frg} {W : WX} {r : R2} {op : Op2} {ta tb : TE} {da db : DTE} (ha : SndB K W ta da) (hb : SndB K W tb db) (hr : OpS K r op) : SndE K W (tOp r ta tb) (dOp op da db) :=
  fun H0 A0 A σ H ρ Q E Qr x ht q e => ha H0 A0 A σ H ρ _ E _ x ht (fun d ρ1 v1 H1 A1 af1 r1 hq =>
    hb H0 A0 A1 σ H1 ρ1 _ E _ af1.ok hq (fun d2 ρ2 v2 H2 A2 af2 r2 hq2 => hr A2 H2 v1 v2 d d2 _ _ (fun p h => af2.ok.noA h) (r1.go af2.gf af2.go) r2 hq2
      fun c z H3 g r3 hc => q c ρ2 z H3 A2 (af1.trans (af2.more g)) r3 hc) fun c ρ' H' A' af he => e c ρ' H' A' (af1.trans af) he) e
theorem OpS.or {K : Frg} {r r' : R2} {op : Op2} (h : OpS K r op) : OpS K (fun x y H Q => r x y H Q ∨ r' x y H Q) op := fun B H x y d e P Q nb rx ry hop k => .inl (h B H x y d e P Q nb rx ry hop k)

section
variable {K : Frg} {B : List Addr} {H : Hp} {v : V}
theorem repb_int {i : Int} (h : RepB K B H (.int i) v) : v = .int i := by
  have h' : Rep K (hide B H) (.int i) v := h
  unfold Rep at h'; exact h'
theorem repb_str {i : Str} (h : RepB K B H (.str i) v) : v = .str i := by
  have h' : Rep K (hide B H) (.str i) v := h
  unfold Rep at h'; exact h'
theorem repb_bl {i : Bool} (h : RepB K B H (.bl i) v) : v = .bl i := by
  have h' : Rep K (hide B H) (.bl i) v := h
  unfold Rep at h'; exact h'
theorem repb_non (h : RepB K B H .non v) : v = .non := by
  have h' : Rep K (hide B H) .non v := h
  unfold Rep at h'; exact h'
/-- a new list in the open -/
theorem rep_newL {p : Addr} {xs : List V} {ds : List D} (h : H p = none) (nb : p ∉ B) (r : Reps K (hide B H) ds xs) : Rep K (hide B (upd H p (.lst xs))) (.lst ds) (.ref p) := by
  unfold Rep
  exact ⟨p, xs, rfl, by rw [hide_out nb]; exact upd_same, r.mono (go_new h).hide.le⟩
theorem rep_newT {p : Addr} {xs : List V} {ds : List D} (h : H p = none) (nb : p ∉ B) (r : Reps K (hide B H) ds xs) : Rep K (hide B (upd H p (.tup xs))) (.tup ds) (.ref p) := by
  unfold Rep
  exact ⟨p, xs, rfl, .inl (.inl (by rw [hide_out nb]; exact upd_same)), r.mono (go_new h).hide.le⟩
end
def addD : Op2
  | .int i, .int j, P => P (.int (i + j))
  | .str x, .str y, P => x.length + y.length ≤ sizeLine ∧ P (.str (x ++ y))
  | .lst xs, .lst ys, P => xs.length + ys.length ≤ sizeLine ∧ P (.lst (xs ++ ys))
  | _, _, _ => False
def rAddD : R2 := fun x y H Q => (rI0 (fun i j => .int (i + j)) x y H Q ∨ (∃ i j, x = .str i ∧ y = .str j ∧ i.length + j.length ≤ sizeLine ∧ Q (.str (i ++ j)) H)) ∨ rCat x y H Q
theorem op_addD {X : Cx} : OpR X (binaryOp .Add) rAddD := (op_add.or op_add_str).or op_cat
theorem ops_add {K : Frg} : OpS K rAddD addD := fun B H x y d e P Q nb rx ry hop k => by
  unfold addD at hop
  split at hop
  · cases repb_int rx; cases repb_int ry
    exact .inl (.inl ⟨_, _, rfl, rfl, k _ _ H (Go.refl _) rep_int hop⟩)
  · cases repb_str rx; cases repb_str ry
    exact .inl (.inr ⟨_, _, rfl, rfl, hop.1, k _ _ H (Go.refl _) rep_str hop.2⟩)
  · obtain ⟨a, xs, e1, h1, r1⟩ := rx
    obtain ⟨b, ys, e2, h2, r2⟩ := ry
    refine .inr ⟨a, b, xs, ys, e1, e2, h1, h2, ?_, fun p hp => k _ _ _ (go_new hp) (rep_newL hp (nb p hp) (r1.append r2)) hop.2⟩
    rw [← r1.length, ← r2.length]
    exact hop.1
  · exact hop.elim
def subD : Op2
  | .int i, .int j, P => P (.int (i - j))
  | _, _, _ => False
theorem ops_sub {K : Frg} : OpS K (rI0 fun i j => .int (i - j)) subD := fun B H x y d e P Q nb rx ry hop k => by
  unfold subD at hop
  split at hop
  · cases repb_int rx; cases repb_int ry
    exact ⟨_, _, rfl, rfl, k _ _ H (Go.refl _) rep_int hop⟩
  · exact hop.elim
/-- bounds of a product -/
def MulOk (i j : Int) : Prop := IntMulOk i j
def mulD : Op2
  | .int i, .int j, P => MulOk i j ∧ P (.int (i * j))
  | .lst xs, .int k, P => -(2 ^ 63) ≤ k ∧ k < 2 ^ 63 ∧ xs.length * k.toNat ≤ sizeLine ∧ P (.lst (List.replicate k.toNat xs).flatten)
  | _, _, _ => False
def rMulD : R2 := fun x y H Q => rI MulOk (fun i j => .int (i * j)) x y H Q ∨ rRep x y H Q
theorem op_mulD {X : Cx} : OpR X (binaryOp .Mult) rMulD := (opI fun _ _ _ _ _ _ _ hc q => mul_int q hc).or op_rep
theorem ops_mul {K : Frg} : OpS K rMulD mulD := fun B H x y d e P Q nb rx ry hop k => by
  unfold mulD at hop
  split at hop
  · cases repb_int rx; cases repb_int ry
    exact .inl ⟨_, _, rfl, rfl, hop.1, k _ _ H (Go.refl _) rep_int hop.2⟩
  · obtain ⟨a, xs, e1, h1, r1⟩ := rx
    cases repb_int ry
    obtain ⟨q1, q2, q3, q4⟩ := hop
    refine .inr ⟨a, _, xs, e1, rfl, h1, q1, q2, by rw [← r1.length]; exact q3, fun p hp => k _ _ _ (go_new hp) (rep_newL hp (nb p hp) (r1.rep _)) q4⟩
  · exact hop.elim
def CFdiv (i j : Int) : Prop := j ≠ 0 ∧ Builtin.divisionGoesByPylong i j = false
def fdivD : Op2
  | .int i, .int j, P => CFdiv i j ∧ P (.int (i.fdiv j))
  | _, _, _ => False
theorem op_fdivD {X : Cx} : OpR X (binaryOp .FloorDiv) (rI CFdiv fun i j => .int (i.fdiv j)) := opI fun _ _ _ _ _ _ _ hc q => floordiv_int hc.1 q (.inl hc.2)
theorem ops_fdiv {K : Frg} : OpS K (rI CFdiv fun i j => .int (i.fdiv j)) fdivD := fun B H x y d e P Q nb rx ry hop k => by
  unfold fdivD at hop
  split at hop
  · cases repb_int rx; cases repb_int ry
    exact ⟨_, _, rfl, rfl, hop.1, k _ _ H (Go.refl _) rep_int hop.2⟩
  · exact hop.elim
def modD : Op2
  | .int i, .int j, P => j ≠ 0 ∧ P (.int (i.fmod j))
  | _, _, _ => False
theorem ops_mod {K : Frg} : OpS K (rI (fun _ j => j ≠ 0) fun i j => .int (i.fmod j)) modD := fun B H x y d e P Q nb rx ry hop k => by
  unfold modD at hop
  split at hop
  · cases repb_int rx; cases repb_int ry
    exact ⟨_, _, rfl, rfl, hop.1, k _ _ H (Go.refl _) rep_int hop.2⟩
  · exact hop.elim
def CPowD (i j : Int) : Prop := 0 ≤ j ∧ j ≤ 1000000 ∧ i.natAbs < 2 ^ 64
def powD : Op2
  | .int i, .int j, P => CPowD i j ∧ P (.int (i ^ j.toNat))
  | _, _, _ => False
theorem ops_pow {K : Frg} : OpS K (rI CPow fun i j => .int (i ^ j.toNat)) powD := fun B H x y d e P Q nb rx ry hop k => by
  unfold powD at hop
  split at hop
  · cases repb_int rx; cases repb_int ry
    exact ⟨_, _, rfl, rfl, hop.1, k _ _ H (Go.refl _) rep_int hop.2⟩
  · exact hop.elim
/-- comparisons of two ints -/
def cmpD (p : Int → Int → Bool) : Op2
  | .int i, .int j, P => P (.bl (p i j))
  | _, _, _ => False
theorem ops_cmp {K : Frg} {p : Int → Int → Bool} : OpS K (rI0 fun i j => .bl (p i j)) (cmpD p) := fun B H x y d e P Q nb rx ry hop k => by
  unfold cmpD at hop
  split at hop
  · cases repb_int rx; cases repb_int ry
    exact ⟨_, _, rfl, rfl, k _ _ H (Go.refl _) rep_bl hop⟩
  · exact hop.elim
abbrev ltD : Op2 := cmpD fun i j => decide (i < j)
abbrev leD : Op2 := cmpD fun i j => decide (i ≤ j)
abbrev gtD : Op2 := cmpD fun i j => decide (j < i)
abbrev geD : Op2 := cmpD fun i j => decide (j ≤ i)
/-! == of data -/
mutual
def pd : D → PyData
  | .non => .none
  | .bl b => .bool b
  | .int i => .int i
  | .str x => .str x
  | .tup ds => .tuple (pds ds)
  | .lst ds => .list (pds ds)
  | .fz ds => .list (pds ds)
  | .dT _ => .none
  | .dK _ => .none
  | .ins _ _ => .none
  | .exc _ => .none
def pds : List D → List PyData
  | [] => []
  | d :: ds => pd d :: pds ds
end
mutual
def isPd : D → Bool
  | .tup ds => isPds ds
  | .lst ds => isPds ds
  | .fz ds => isPds ds
  | .dT _ => false
  | .dK _ => false
  | .ins _ _ => false
  | .exc _ => false
  | .non => true
  | .bl _ => true
  | .int _ => true
  | .str _ => true
def isPds : List D → Bool
  | [] => true
  | d :: ds => isPd d && isPds ds
end
mutual
theorem dp_of {K : Frg} {H : Hp} : ∀ {d : D} {v : V}, Rep K H d v → isPd d = true → Dp K H v (pd d)
  | .non, _, h, _ => by unfold Rep at h; subst h; unfold pd; exact .non
  | .bl _, _, h, _ => by unfold Rep at h; subst h; unfold pd; exact .bl _
  | .int _, _, h, _ => by unfold Rep at h; subst h; unfold pd; exact .int _
  | .str _, _, h, _ => by unfold Rep at h; subst h; unfold pd; exact .str _
  | .tup ds, _, h, q => by
    unfold Rep at h; unfold isPd at q; unfold pd
    obtain ⟨a, xs, rfl, s, r⟩ := h
    exact .tup s (dps_of r q)
  | .lst ds, _, h, q => by
    unfold Rep at h; unfold isPd at q; unfold pd
    obtain ⟨a, xs, rfl, s, r⟩ := h
    exact .lst (.of s) (dps_of r q)
  | .fz ds, _, h, q => by
    unfold Rep at h; unfold isPd at q; unfold pd
    obtain ⟨a, xs, rfl, s, r⟩ := h
    exact .lst s (dps_of r q)
  | .dT _, _, _, q => by unfold isPd at q; cases q
  | .dK _, _, _, q => by unfold isPd at q; cases q
  | .ins _ _, _, _, q => by unfold isPd at q; cases q
  | .exc _, _, _, q => by unfold isPd at q; cases q
theorem dps_of {K : Frg} {H : Hp} : ∀ {ds : List D} {vs : List V}, Reps K H ds vs → isPds ds = true → DpAll K H vs (pds ds)
  | [], _, h, _ => by unfold Reps at h; subst h; unfold pds; exact .nil
  | d :: ds, _, h, q => by
    unfold Reps at h; unfold isPds at q; unfold pds
    obtain ⟨v, r, rfl, h1, h2⟩ := h
    obtain ⟨q1, q2⟩ := Bool.and_eq_true_iff.mp q
    exact .cons (dp_of h1 q1) (dps_of h2 q2)
end
theorem dpb_of {K : Frg} {B : List Addr} {H : Hp} {d : D} {v : V} (h : RepB K B H d v) (q : isPd d = true) : Dp K H v (pd d) := by
  have l : Le (hide B H) H := le_hide
  cases d with
  | lst ds =>
    obtain ⟨a, xs, rfl, s, r⟩ := h
    unfold isPd at q; unfold pd
    exact .lst (.of s) (dps_of (r.mono l) q)
  | fz ds =>
    obtain ⟨a, xs, rfl, s, r⟩ := h
    unfold isPd at q; unfold pd
    exact .lst s (dps_of (r.mono l) q)
  | tup ds =>
    obtain ⟨a, xs, rfl, s, r⟩ := h
    unfold isPd at q; unfold pd
    exact .tup s (dps_of (r.mono l) q)
  | dT ds => unfold isPd at q; cases q
  | dK ds => unfold isPd at q; cases q
  | ins C ds => unfold isPd at q; cases q
  | exc C => unfold isPd at q; cases q
  | non => exact dp_of (Rep.mono l h) q
  | bl _ => exact dp_of (Rep.mono l h) q
  | int _ => exact dp_of (Rep.mono l h) q
  | str _ => exact dp_of (Rep.mono l h) q
def okD (d : D) : Prop := isPd d = true ∧ SeqAt.shaped (pd d) = true
/-- the answer of ==: said of data as trees (eqv), of two texts, two ints, two bools as it is -/
def eqD : Op2
  | .int i, .int j, P => P (.bl (decide (i = j)))
  | .str x, .str y, P => P (.bl (decide (x = y)))
  | .bl x, .bl y, P => P (.bl (decide (x = y)))
  | d, e, P => okD d ∧ okD e ∧ P (.bl (PyData.eqv (pd d) (pd e)))
def neD : Op2
  | .int i, .int j, P => P (.bl (!decide (i = j)))
  | .str x, .str y, P => P (.bl (!decide (x = y)))
  | .bl x, .bl y, P => P (.bl (!decide (x = y)))
  | d, e, P => okD d ∧ okD e ∧ P (.bl (!PyData.eqv (pd d) (pd e)))
def rEqD2 (K : Frg) : R2 := fun x y H Q => rEq x y H Q ∨ rEqD K x y H Q
def rNeD2 (K : Frg) : R2 := fun x y H Q => rNe x y H Q ∨ rNeD K x y H Q
theorem op_eqD2 {X : Cx} (hu : X.A.units + 64 < cLine) : OpR X (compareOp .Eq) (rEqD2 X.K) := op_eq.or (op_eqD hu)
theorem op_neD2 {X : Cx} (hu : X.A.units + 64 < cLine) : OpR X (compareOp .NotEq) (rNeD2 X.K) := op_ne.or (op_neD hu)
theorem dec_v {α : Type} [DecidableEq α] {f : α → V} (hf : ∀ a b, f a = f b → a = b) {a b : α} : decide (f a = f b) = decide (a = b) := by
  by_cases e : a = b
  · subst e; simp
  · rw [decide_eq_false e, decide_eq_false fun q => e (hf _ _ q)]
theorem ops_eq {K : Frg} : OpS K (rEqD2 K) eqD := fun B H x y d e P Q nb rx ry hop k => by
  unfold eqD at hop
  split at hop
  · cases repb_int rx; cases repb_int ry
    refine .inl ⟨rfl, k _ _ H (Go.refl _) (by rw [dec_v (f := V.int) (fun _ _ q => by injection q)]; exact rep_bl) hop⟩
  · cases repb_str rx; cases repb_str ry
    refine .inl ⟨rfl, k _ _ H (Go.refl _) (by rw [dec_v (f := V.str) (fun _ _ q => by injection q)]; exact rep_bl) hop⟩
  · cases repb_bl rx; cases repb_bl ry
    refine .inl ⟨rfl, k _ _ H (Go.refl _) (by rw [dec_v (f := V.bl) (fun _ _ q => by injection q)]; exact rep_bl) hop⟩
  · obtain ⟨⟨h1, h2⟩, ⟨h3, h4⟩, h5⟩ := hop
    exact .inr ⟨_, _, dpb_of rx h1, dpb_of ry h3, h2, h4, k _ _ H (Go.refl _) rep_bl h5⟩
theorem ops_ne {K : Frg} : OpS K (rNeD2 K) neD := fun B H x y d e P Q nb rx ry hop k => by
  unfold neD at hop
  split at hop
  · cases repb_int rx; cases repb_int ry
    refine .inl ⟨rfl, k _ _ H (Go.refl _) (by rw [dec_v (f := V.int) (fun _ _ q => by injection q)]; exact rep_bl) hop⟩
  · cases repb_str rx; cases repb_str ry
    refine .inl ⟨rfl, k _ _ H (Go.refl _) (by rw [dec_v (f := V.str) (fun _ _ q => by injection q)]; exact rep_bl) hop⟩
  · cases repb_bl rx; cases repb_bl ry
    refine .inl ⟨rfl, k _ _ H (Go.refl _) (by rw [dec_v (f := V.bl) (fun _ _ q => by injection q)]; exact rep_bl) hop⟩
  · obtain ⟨⟨h1, h2⟩, ⟨h3, h4⟩, h5⟩ := hop
    exact .inr ⟨_, _, dpb_of rx h1, dpb_of ry h3, h2, h4, k _ _ H (Go.refl _) rep_bl h5⟩
/-! is None -/
def isNonD : D → Bool
  | .non => true
  | _ => false
def isD : Op2
  | d, .non, P => P (.bl (isNonD d))
  | _, _, _ => False
def isNotD : Op2
  | d, .non, P => P (.bl (!isNonD d))
  | _, _, _ => False
theorem repb_isNon {K : Frg} {B : List Addr} {H : Hp} {d : D} {v : V} (h : RepB K B H d v) : decide (v = .non) = isNonD d := by
  cases d with
  | lst ds => obtain ⟨a, xs, rfl, s, r⟩ := h; rfl
  | fz ds => obtain ⟨a, xs, rfl, s, r⟩ := h; rfl
  | tup ds => obtain ⟨a, xs, rfl, s, r⟩ := h; rfl
  | dT ds => obtain ⟨a, xs, rfl, s, r⟩ := h; rfl
  | dK ds => obtain ⟨a, xs, rfl, s, r⟩ := h; rfl
  | ins C ds => obtain ⟨a, dx, xs, rfl, s, r⟩ := h; rfl
  | exc C =>
    have h' : Rep K (hide B H) (.exc C) v := h
    unfold Rep at h'
    obtain ⟨a, rfl, _⟩ := h'
    rfl
  | non => cases repb_non h; rfl
  | bl _ => cases repb_bl h; rfl
  | int _ => cases repb_int h; rfl
  | str _ => cases repb_str h; rfl
theorem ops_is {K : Frg} : OpS K (fun x y H Q => y = .non ∧ Q (.bl (decide (x = .non))) H) isD := fun B H x y d e P Q nb rx ry hop k => by
  unfold isD at hop
  split at hop
  · refine ⟨repb_non ry, ?_⟩
    rw [repb_isNon rx]
    exact k _ _ H (Go.refl _) rep_bl hop
  · exact hop.elim
theorem ops_isNot {K : Frg} : OpS K (fun x y H Q => y = .non ∧ Q (.bl (!decide (x = .non))) H) isNotD := fun B H x y d e P Q nb rx ry hop k => by
  unfold isNotD at hop
  split at hop
  · refine ⟨repb_non ry, ?_⟩
    rw [repb_isNon rx]
    exact k _ _ H (Go.refl _) rep_bl hop
  · exact hop.elim
/-! in, not in: a sign in a text -/
def inSD : Op2
  | .str x, .str y, P => ∃ c, x = ⟨#[c]⟩ ∧ P (.bl (decide (c ∈ y.cps.toList)))
  | _, _, _ => False
def notInSD : Op2
  | .str x, .str y, P => ∃ c, x = ⟨#[c]⟩ ∧ P (.bl (!decide (c ∈ y.cps.toList)))
  | _, _, _ => False
def rInS : R2 := fun x y H Q => ∃ (c : Nat) (z : Str), x = .str ⟨#[c]⟩ ∧ y = .str z ∧ Q (.bl (decide (c ∈ z.cps.toList))) H
def rNotInS : R2 := fun x y H Q => ∃ (c : Nat) (z : Str), x = .str ⟨#[c]⟩ ∧ y = .str z ∧ Q (.bl (!decide (c ∈ z.cps.toList))) H
theorem ops_inS {K : Frg} : OpS K rInS inSD := fun B H x y d e P Q nb rx ry hop k => by
  unfold inSD at hop
  split at hop
  · obtain ⟨c, rfl, h⟩ := hop
    cases repb_str rx; cases repb_str ry
    exact ⟨c, _, rfl, rfl, k _ _ H (Go.refl _) rep_bl h⟩
  · exact hop.elim
theorem ops_notInS {K : Frg} : OpS K rNotInS notInSD := fun B H x y d e P Q nb rx ry hop k => by
  unfold notInSD at hop
  split at hop
  · obtain ⟨c, rfl, h⟩ := hop
    cases repb_str rx; cases repb_str ry
    exact ⟨c, _, rfl, rfl, k _ _ H (Go.refl _) rep_bl h⟩
  · exact hop.elim
/-! in, not in: a flat thing in a list or tuple -/
def flatD : D → Option V
  | .non => some .non
  | .bl b => some (.bl b)
  | .int i => some (.int i)
  | .str x => some (.str x)
  | _ => none
def flatsD : List D → Option (List V)
  | [] => some []
  | d :: r => match flatD d, flatsD r with
    | some v, some vs => some (v :: vs)
    | _, _ => none
theorem flat_rep {K : Frg} {B : List Addr} {H : Hp} {d : D} {v w : V} (h : RepB K B H d v) (e : flatD d = some w) : v = w ∧ flatV v = true := by
  cases d with
  | non => cases e; exact ⟨repb_non h, by rw [repb_non h]; rfl⟩
  | bl _ => cases e; exact ⟨repb_bl h, by rw [repb_bl h]; rfl⟩
  | int _ => cases e; exact ⟨repb_int h, by rw [repb_int h]; rfl⟩
  | str _ => cases e; exact ⟨repb_str h, by rw [repb_str h]; rfl⟩
  | _ => cases e
theorem flats_rep {K : Frg} {H : Hp} : ∀ {ds : List D} {vs ws : List V}, Reps K H ds vs → flatsD ds = some ws → vs = ws ∧ vs.all flatV = true
  | [], _, _, h, e => by
    unfold Reps at h; unfold flatsD at e
    cases e; subst h
    exact ⟨rfl, rfl⟩
  | d :: r, _, _, h, e => by
    unfold Reps at h; unfold flatsD at e
    obtain ⟨v, r', rfl, h1, h2⟩ := h
    cases e1 : flatD d with
    | none => rw [e1] at e; cases e
    | some w =>
      cases e2 : flatsD r with
      | none => rw [e1, e2] at e; cases e
      | some ws =>
        rw [e1, e2] at e
        cases e
        have h1' : RepB K [] H d v := by
          have : Rep K (hide [] H) d v := by rw [hide_nil]; exact h1
          exact this.b
        obtain ⟨f1, f2⟩ := flat_rep h1' e1
        obtain ⟨g1, g2⟩ := flats_rep h2 e2
        subst f1; subst g1
        exact ⟨rfl, by simp [f2, g2]⟩
def itemsD : D → Option (List D)
  | .lst ds => some ds
  | .fz ds => some ds
  | .tup ds => some ds
  | _ => none
def inLD (neg : Bool) : Op2 := fun d e P => ∃ ds v vs, itemsD e = some ds ∧ flatD d = some v ∧ flatsD ds = some vs ∧ P (.bl (if neg then !inV v vs else inV v vs))
theorem items_rep {K : Frg} {B : List Addr} {H : Hp} {d : D} {v : V} {ds : List D} (h : RepB K B H d v) (e : itemsD d = some ds) : ∃ a xs, v = .ref a ∧ (SqL K H a xs ∨ SqT K H a xs) ∧ Reps K (hide B H) ds xs := by
  cases d with
  | lst ds' => cases e; obtain ⟨a, xs, rfl, s, r⟩ := h; exact ⟨a, xs, rfl, .inl (.of s), r⟩
  | fz ds' => cases e; obtain ⟨a, xs, rfl, s, r⟩ := h; exact ⟨a, xs, rfl, .inl s, r⟩
  | tup ds' => cases e; obtain ⟨a, xs, rfl, s, r⟩ := h; exact ⟨a, xs, rfl, .inr s, r⟩
  | _ => cases e
theorem ops_inL {K : Frg} {neg : Bool} : OpS K (rIn K neg) (inLD neg) := fun B H x y d e P Q nb rx ry hop k => by
  obtain ⟨ds, v, vs, e1, e2, e3, h⟩ := hop
  obtain ⟨a, xs, rfl, s, r⟩ := items_rep ry e1
  obtain ⟨rfl, f1⟩ := flat_rep rx e2
  obtain ⟨rfl, f2⟩ := flats_rep r e3
  exact ⟨a, _, rfl, s, f1, f2, k _ _ H (Go.refl _) rep_bl h⟩
/-! subscripts -/
def ixD : Op2
  | .lst ds, .int i, P => ∃ d, atI ds i = some d ∧ P d
  | .fz ds, .int i, P => ∃ d, atI ds i = some d ∧ P d
  | .tup ds, .int i, P => ∃ d, atI ds i = some d ∧ P d
  | .str z, .int i, P => ∃ c, z.length ≤ sizeLine ∧ atI z.cps.toList i = some c ∧ P (.str ⟨#[c]⟩)
  | _, _, _ => False
theorem Reps.atI {K : Frg} {H : Hp} {ds : List D} {vs : List V} {i : Int} {d : D} (h : Reps K H ds vs) (e : L2.atI ds i = some d) : ∃ v, L2.atI vs i = some v ∧ Rep K H d v := by
  unfold L2.atI at e ⊢
  rw [← h.length]
  cases q : ixN ds.length i with
  | none => rw [q] at e; cases e
  | some j =>
    rw [q] at e
    exact h.get (show ds[j]? = some d from e)
theorem ops_ix {K : Frg} : OpS K (rIx K) ixD := fun B H x y d e P Q nb rx ry hop k => by
  unfold ixD at hop
  split at hop
  · obtain ⟨c, h1, h2⟩ := hop
    obtain ⟨a, xs, rfl, s, r⟩ := rx
    cases repb_int ry
    obtain ⟨v, hv, rv⟩ := r.atI h1
    exact .inl ⟨a, xs, _, v, rfl, rfl, .of s, hv, k _ _ H (Go.refl _) rv h2⟩
  · obtain ⟨c, h1, h2⟩ := hop
    obtain ⟨a, xs, rfl, s, r⟩ := rx
    cases repb_int ry
    obtain ⟨v, hv, rv⟩ := r.atI h1
    exact .inl ⟨a, xs, _, v, rfl, rfl, s, hv, k _ _ H (Go.refl _) rv h2⟩
  · obtain ⟨c, h1, h2⟩ := hop
    obtain ⟨a, xs, rfl, s, r⟩ := rx
    cases repb_int ry
    obtain ⟨v, hv, rv⟩ := r.atI h1
    exact .inr (.inl ⟨a, xs, _, v, rfl, rfl, s, hv, k _ _ H (Go.refl _) rv h2⟩)
  · obtain ⟨c, h1, h2, h3⟩ := hop
    cases repb_str rx; cases repb_int ry
    exact .inr (.inr ⟨_, _, c, rfl, rfl, h1, h2, k _ _ H (Go.refl _) rep_str h3⟩)
  · exact hop.elim
section
variable {X : Cx} {W : WX} {a b : Expr} {ta tb : TE} {da db : DTE} {pos : Pos}
theorem de_add (ha : DB X W a ta da) (hb : DB X W b tb db) : DE X W (.BinOp a .Add b pos) (tOp rAddD ta tb) (dOp addD da db) := ⟨pe_op op_addD ha.pe hb.pe, sn_op ha.sn hb.sn ops_add⟩
theorem de_sub (ha : DB X W a ta da) (hb : DB X W b tb db) : DE X W (.BinOp a .Sub b pos) (tOp (rI0 fun i j => .int (i - j)) ta tb) (dOp subD da db) := ⟨pe_op op_sub ha.pe hb.pe, sn_op ha.sn hb.sn ops_sub⟩
theorem de_mul (ha : DB X W a ta da) (hb : DB X W b tb db) : DE X W (.BinOp a .Mult b pos) (tOp rMulD ta tb) (dOp mulD da db) := ⟨pe_op op_mulD ha.pe hb.pe, sn_op ha.sn hb.sn ops_mul⟩
theorem de_fdiv (ha : DB X W a ta da) (hb : DB X W b tb db) : DE X W (.BinOp a .FloorDiv b pos) (tOp (rI CFdiv fun i j => .int (i.fdiv j)) ta tb) (dOp fdivD da db) := ⟨pe_op op_fdivD ha.pe hb.pe, sn_op ha.sn hb.sn ops_fdiv⟩
theorem de_mod (ha : DB X W a ta da) (hb : DB X W b tb db) : DE X W (.BinOp a .Mod b pos) (tOp (rI (fun _ j => j ≠ 0) fun i j => .int (i.fmod j)) ta tb) (dOp modD da db) := ⟨pe_op op_modN ha.pe hb.pe, sn_op ha.sn hb.sn ops_mod⟩
theorem de_pow (ha : DB X W a ta da) (hb : DB X W b tb db) : DE X W (.BinOp a .Pow b pos) (tOp (rI CPow fun i j => .int (i ^ j.toNat)) ta tb) (dOp powD da db) := ⟨pe_op op_pow ha.pe hb.pe, sn_op ha.sn hb.sn ops_pow⟩
theorem de_lt (ha : DB X W a ta da) (hb : DB X W b tb db) : DE X W (.Compare a [.Lt] [b] pos) (tOp (rI0 fun i j => .bl (decide (i < j))) ta tb) (dOp ltD da db) := ⟨pe_cmpR op_lt ha.pe hb.pe (nomark _), sn_op ha.sn hb.sn ops_cmp⟩
theorem de_le (ha : DB X W a ta da) (hb : DB X W b tb db) : DE X W (.Compare a [.LtE] [b] pos) (tOp (rI0 fun i j => .bl (decide (i ≤ j))) ta tb) (dOp leD da db) := ⟨pe_cmpR op_le ha.pe hb.pe (nomark _), sn_op ha.sn hb.sn ops_cmp⟩
theorem de_gt (ha : DB X W a ta da) (hb : DB X W b tb db) : DE X W (.Compare a [.Gt] [b] pos) (tOp (rI0 fun i j => .bl (decide (j < i))) ta tb) (dOp gtD da db) := ⟨pe_cmpR op_gt ha.pe hb.pe (nomark _), sn_op ha.sn hb.sn ops_cmp⟩
theorem de_ge (ha : DB X W a ta da) (hb : DB X W b tb db) : DE X W (.Compare a [.GtE] [b] pos) (tOp (rI0 fun i j => .bl (decide (j ≤ i))) ta tb) (dOp geD da db) := ⟨pe_cmpR op_ge ha.pe hb.pe (nomark _), sn_op ha.sn hb.sn ops_cmp⟩
theorem de_eq (hu : X.A.units + 64 < cLine) (ha : DB X W a ta da) (hb : DB X W b tb db) : DE X W (.Compare a [.Eq] [b] pos) (tOp (rEqD2 X.K) ta tb) (dOp eqD da db) := ⟨pe_cmpR (op_eqD2 hu) ha.pe hb.pe (nomark _), sn_op ha.sn hb.sn ops_eq⟩
theorem de_ne (hu : X.A.units + 64 < cLine) (ha : DB X W a ta da) (hb : DB X W b tb db) : DE X W (.Compare a [.NotEq] [b] pos) (tOp (rNeD2 X.K) ta tb) (dOp neD da db) := ⟨pe_cmpR (op_neD2 hu) ha.pe hb.pe (nomark _), sn_op ha.sn hb.sn ops_ne⟩
theorem de_is (ha : DB X W a ta da) (hb : DB X W b tb db) : DE X W (.Compare a [.Is] [b] pos) (tOp (fun x y H Q => y = .non ∧ Q (.bl (decide (x = .non))) H) ta tb) (dOp isD da db) := ⟨pe_cmpR op_isN ha.pe hb.pe (nomark _), sn_op ha.sn hb.sn ops_is⟩
theorem de_isNot (ha : DB X W a ta da) (hb : DB X W b tb db) : DE X W (.Compare a [.IsNot] [b] pos) (tOp (fun x y H Q => y = .non ∧ Q (.bl (!decide (x = .non))) H) ta tb) (dOp isNotD da db) := ⟨pe_cmpR op_notN ha.pe hb.pe (nomark _), sn_op ha.sn hb.sn ops_isNot⟩
theorem de_inS (ha : DB X W a ta da) (hb : DB X W b tb db) (hm : behindInMarks .In b = false) : DE X W (.Compare a [.In] [b] pos) (tOp rInS ta tb) (dOp inSD da db) := ⟨pe_cmpR op_in_sign ha.pe hb.pe hm, sn_op ha.sn hb.sn ops_inS⟩
theorem de_notInS (ha : DB X W a ta da) (hb : DB X W b tb db) (hm : behindInMarks .NotIn b = false) : DE X W (.Compare a [.NotIn] [b] pos) (tOp rNotInS ta tb) (dOp notInSD da db) := ⟨pe_cmpR op_notIn_sign ha.pe hb.pe hm, sn_op ha.sn hb.sn ops_notInS⟩
theorem de_inL (ha : DB X W a ta da) (hb : DB X W b tb db) (hm : behindInMarks .In b = false) : DE X W (.Compare a [.In] [b] pos) (tOp (rIn X.K false) ta tb) (dOp (inLD false) da db) := ⟨pe_cmpR op_in_seq ha.pe hb.pe hm, sn_op ha.sn hb.sn ops_inL⟩
theorem de_notInL (ha : DB X W a ta da) (hb : DB X W b tb db) (hm : behindInMarks .NotIn b = false) : DE X W (.Compare a [.NotIn] [b] pos) (tOp (rIn X.K true) ta tb) (dOp (inLD true) da db) := ⟨pe_cmpR op_notIn_seq ha.pe hb.pe hm, sn_op ha.sn hb.sn ops_inL⟩
theorem de_ix (ha : DB X W a ta da) (hb : DB X W b tb db) (hs : PlainIx b := by exact fun _ _ => rfl) : DE X W (.Subscript a b pos) (tOp (rIx X.K) ta tb) (dOp ixD da db) := ⟨pe_ix ix_seq ha.pe hb.pe hs, sn_op ha.sn hb.sn ops_ix⟩
end
end DL

end

section
/-! The D layer, 4: tests, displays, slices, calls. -/
namespace DL
open PySem PySem.Spec PyProof.Rows L2

/-! ### one value -/
abbrev Op1 := D → (D → Prop) → Prop
def UnS (K : Frg) (r : V → Hp → VK → Prop) (op : Op1) : Prop := ∀ (B : List Addr) (H : Hp) (x : V) (d : D) (P : D → Prop) (Q : VK), (∀ p, H p = none → p ∉ B) → RepB K B H d x → op d P →
  (∀ c z H', Go H H' → Rep K (hide B H') c z → P c → Q z H') → r x H Q
def dUn (op : Op1) (da : DTE) : DTE := fun ρ Q E => da ρ (fun d ρ1 => op d fun c => Q c ρ1) E
theorem sn_un {K : Frg} {W : WX} {r : V → Hp → VK → Prop} {op : Op1} {ta : TE} {da : DTE} (ha : SndB K W ta da) (hr : UnS K r op) : SndE K W (tUn r ta) (dUn op da) :=
  fun H0 A0 A σ H ρ Q E Qr x ht q e => ha H0 A0 A σ H ρ _ E _ x ht (fun d ρ1 v1 H1 A1 af1 r1 hq => hr A1 H1 v1 d _ _ (fun p h => af1.ok.noA h) r1 hq fun c z H3 g r3 hc => q c ρ1 z H3 A1 (af1.more g) r3 hc) e
def negD : Op1
  | .int i, P => P (.int (-i))
  | _, _ => False
theorem uns_neg {K : Frg} : UnS K (rU fun i => .int (-i)) negD := fun B H x d P Q nb rx hop k => by
  unfold negD at hop
  split at hop
  · cases repb_int rx
    exact ⟨_, rfl, k _ _ H (Go.refl _) rep_int hop⟩
  · exact hop.elim
theorem de_neg {X : Cx} {W : WX} {a : Expr} {ta : TE} {da : DTE} {pos : Pos} (ha : DB X W a ta da) : DE X W (.UnaryOp .USub a pos) (tUn (rU fun i => .int (-i)) ta) (dUn negD da) := ⟨pe_un un_neg ha.pe, sn_un ha.sn uns_neg⟩

/-! ### tests -/
def dTest (t : DTE) : DTT := fun ρ Q E => t ρ (fun d ρ' => match d with
  | .bl b => Q b ρ'
  | _ => False) E
theorem sn_test {K : Frg} {W : WX} {ta : TE} {da : DTE} (ha : SndB K W ta da) : SndT K W (tTest ta) (dTest da) :=
  fun H0 A0 A σ H ρ Q E Qr x ht q e => ha H0 A0 A σ H ρ _ E _ x ht (fun d ρ1 v1 H1 A1 af1 r1 hq => by
    cases d with
    | bl b =>
      cases repb_bl r1
      exact ⟨b, rfl, q b ρ1 b H1 A1 af1 rfl hq⟩
    | _ => exact hq.elim) e
def truD : D → (Bool → Prop) → Prop
  | .non, P => P false
  | .bl b, P => P b
  | .int i, P => P (i != 0)
  | .str x, P => x.length ≤ sizeLine ∧ P ((x.length : Int) != 0)
  | .lst ds, P => P (!ds.isEmpty)
  | .fz ds, P => P (!ds.isEmpty)
  | .tup ds, P => P (!ds.isEmpty)
  | _, _ => False
def dTru (t : DTE) : DTT := fun ρ Q E => t ρ (fun d ρ' => truD d fun b => Q b ρ') E
theorem isEmpty_reps {K : Frg} {H : Hp} {ds : List D} {vs : List V} (h : Reps K H ds vs) : ds.isEmpty = vs.isEmpty := by
  cases ds with
  | nil => unfold Reps at h; subst h; rfl
  | cons d r => unfold Reps at h; obtain ⟨v, r', rfl, _⟩ := h; rfl
theorem sn_tru {K : Frg} {W : WX} {ta : TE} {da : DTE} (ha : SndB K W ta da) : SndT K W (fun σ H Q => ta σ H fun x H' => ∃ k, TruV K x H' k ∧ Q k H') (dTru da) :=
  fun H0 A0 A σ H ρ Q E Qr x ht q e => ha H0 A0 A σ H ρ _ E _ x ht (fun d ρ1 v1 H1 A1 af1 r1 hq => by
    unfold truD at hq
    split at hq
    · cases repb_non r1; exact ⟨_, rfl, q _ ρ1 _ H1 A1 af1 rfl hq⟩
    · cases repb_bl r1; exact ⟨_, rfl, q _ ρ1 _ H1 A1 af1 rfl hq⟩
    · cases repb_int r1; exact ⟨_, rfl, q _ ρ1 _ H1 A1 af1 rfl hq⟩
    · cases repb_str r1; exact ⟨_, ⟨hq.1, rfl⟩, q _ ρ1 _ H1 A1 af1 rfl hq.2⟩
    · obtain ⟨a, xs, rfl, s, r⟩ := r1; exact ⟨_, .inl ⟨xs, .of s, rfl⟩, q _ ρ1 _ H1 A1 af1 (by rw [isEmpty_reps r]) hq⟩
    · obtain ⟨a, xs, rfl, s, r⟩ := r1; exact ⟨_, .inl ⟨xs, s, rfl⟩, q _ ρ1 _ H1 A1 af1 (by rw [isEmpty_reps r]) hq⟩
    · obtain ⟨a, xs, rfl, s, r⟩ := r1; exact ⟨_, .inr (.inl ⟨xs, s, rfl⟩), q _ ρ1 _ H1 A1 af1 (by rw [isEmpty_reps r]) hq⟩
    · exact hq.elim) e
def dAndT (t u : DTT) : DTT := fun ρ Q E => t ρ (fun b ρ' => if b = true then u ρ' Q E else Q false ρ') E
def dOrT (t u : DTT) : DTT := fun ρ Q E => t ρ (fun b ρ' => if b = true then Q true ρ' else u ρ' Q E) E
def dNotT (t : DTT) : DTT := fun ρ Q E => t ρ (fun b ρ' => Q (!b) ρ') E
theorem sn_and {K : Frg} {W : WX} {t u : TT} {dt du : DTT} (h1 : SndT K W t dt) (h2 : SndT K W u du) : SndT K W (tAnd t u) (dAndT dt du) :=
  fun H0 A0 A σ H ρ Q E Qr x ht q e => h1 H0 A0 A σ H ρ _ E _ x ht (fun d ρ1 v1 H1 A1 af1 r1 hq => by
    subst r1
    cases v1 with
    | true => exact h2 H0 A0 A1 σ H1 ρ1 Q E Qr af1.ok hq (fun d ρ2 v2 H2 A2 af2 r2 hq2 => q d ρ2 v2 H2 A2 (af1.trans af2) r2 hq2) fun c ρ2 H2 A2 af2 he => e c ρ2 H2 A2 (af1.trans af2) he
    | false => exact q false ρ1 false H1 A1 af1 rfl hq) e
theorem sn_or {K : Frg} {W : WX} {t u : TT} {dt du : DTT} (h1 : SndT K W t dt) (h2 : SndT K W u du) : SndT K W (tOr t u) (dOrT dt du) :=
  fun H0 A0 A σ H ρ Q E Qr x ht q e => h1 H0 A0 A σ H ρ _ E _ x ht (fun d ρ1 v1 H1 A1 af1 r1 hq => by
    subst r1
    cases v1 with
    | false => exact h2 H0 A0 A1 σ H1 ρ1 Q E Qr af1.ok hq (fun d ρ2 v2 H2 A2 af2 r2 hq2 => q d ρ2 v2 H2 A2 (af1.trans af2) r2 hq2) fun c ρ2 H2 A2 af2 he => e c ρ2 H2 A2 (af1.trans af2) he
    | true => exact q true ρ1 true H1 A1 af1 rfl hq) e
theorem sn_not {K : Frg} {W : WX} {t : TT} {dt : DTT} (h1 : SndT K W t dt) : SndT K W (tNot t) (dNotT dt) :=
  fun H0 A0 A σ H ρ Q E Qr x ht q e => h1 H0 A0 A σ H ρ _ E _ x ht (fun d ρ1 v1 H1 A1 af1 r1 hq => by
    subst r1
    exact q _ ρ1 _ H1 A1 af1 rfl hq) e
def dIf (t : DTT) (a b : DTE) : DTE := fun ρ Q E => t ρ (fun c ρ' => if c = true then a ρ' Q E else b ρ' Q E) E
theorem sn_ife {K : Frg} {W : WX} {t : TT} {dt : DTT} {ta tb : TE} {da db : DTE} (h1 : SndT K W t dt) (ha : SndE K W ta da) (hb : SndE K W tb db) : SndE K W (tIf t ta tb) (dIf dt da db) :=
  fun H0 A0 A σ H ρ Q E Qr x ht q e => h1 H0 A0 A σ H ρ _ E _ x ht (fun d ρ1 v1 H1 A1 af1 r1 hq => by
    subst r1
    cases v1 with
    | true => exact ha H0 A0 A1 σ H1 ρ1 Q E Qr af1.ok hq (fun d ρ2 v2 H2 A2 af2 r2 hq2 => q d ρ2 v2 H2 A2 (af1.trans af2) r2 hq2) fun c ρ2 H2 A2 af2 he => e c ρ2 H2 A2 (af1.trans af2) he
    | false => exact hb H0 A0 A1 σ H1 ρ1 Q E Qr af1.ok hq (fun d ρ2 v2 H2 A2 af2 r2 hq2 => q d ρ2 v2 H2 A2 (af1.trans af2) r2 hq2) fun c ρ2 H2 A2 af2 he => e c ρ2 H2 A2 (af1.trans af2) he) e
/-- a and b, a or b as values: bools -/
def dAndV (a b : DTE) : DTE := fun ρ Q E => a ρ (fun d ρ' => match d with
  | .bl c => if c = true then b ρ' Q E else Q (.bl false) ρ'
  | _ => False) E
def dOrV (a b : DTE) : DTE := fun ρ Q E => a ρ (fun d ρ' => match d with
  | .bl c => if c = true then Q (.bl true) ρ' else b ρ' Q E
  | _ => False) E
def dNotV (a : DTE) : DTE := fun ρ Q E => a ρ (fun d ρ' => match d with
  | .bl c => Q (.bl (!c)) ρ'
  | _ => False) E
theorem sn_andV {K : Frg} {W : WX} {ta tb : TE} {da db : DTE} (ha : SndB K W ta da) (hb : SndE K W tb db) : SndE K W (tAndV ta tb) (dAndV da db) :=
  fun H0 A0 A σ H ρ Q E Qr x ht q e => ha H0 A0 A σ H ρ _ E _ x ht (fun d ρ1 v1 H1 A1 af1 r1 hq => by
    cases d with
    | bl c =>
      cases repb_bl r1
      refine ⟨c, rfl, ?_⟩
      cases c with
      | true => exact hb H0 A0 A1 σ H1 ρ1 Q E Qr af1.ok hq (fun d ρ2 v2 H2 A2 af2 r2 hq2 => q d ρ2 v2 H2 A2 (af1.trans af2) r2 hq2) fun c ρ2 H2 A2 af2 he => e c ρ2 H2 A2 (af1.trans af2) he
      | false => exact q _ ρ1 _ H1 A1 af1 rep_bl hq
    | _ => exact hq.elim) e
theorem sn_orV {K : Frg} {W : WX} {ta tb : TE} {da db : DTE} (ha : SndB K W ta da) (hb : SndE K W tb db) : SndE K W (tOrV ta tb) (dOrV da db) :=
  fun H0 A0 A σ H ρ Q E Qr x ht q e => ha H0 A0 A σ H ρ _ E _ x ht (fun d ρ1 v1 H1 A1 af1 r1 hq => by
    cases d with
    | bl c =>
      cases repb_bl r1
      refine ⟨c, rfl, ?_⟩
      cases c with
      | false => exact hb H0 A0 A1 σ H1 ρ1 Q E Qr af1.ok hq (fun d ρ2 v2 H2 A2 af2 r2 hq2 => q d ρ2 v2 H2 A2 (af1.trans af2) r2 hq2) fun c ρ2 H2 A2 af2 he => e c ρ2 H2 A2 (af1.trans af2) he
      | true => exact q _ ρ1 _ H1 A1 af1 rep_bl hq
    | _ => exact hq.elim) e
theorem sn_notV {K : Frg} {W : WX} {ta : TE} {da : DTE} (ha : SndB K W ta da) : SndE K W (tNotV ta) (dNotV da) :=
  fun H0 A0 A σ H ρ Q E Qr x ht q e => ha H0 A0 A σ H ρ _ E _ x ht (fun d ρ1 v1 H1 A1 af1 r1 hq => by
    cases d with
    | bl c =>
      cases repb_bl r1
      exact ⟨c, rfl, q _ ρ1 _ H1 A1 af1 rep_bl hq⟩
    | _ => exact hq.elim) e
section
variable {X : Cx} {W : WX} {a b : Expr} {ta tb : TE} {da db : DTE} {pos : Pos}
theorem dt_lt (ha : DB X W a ta da) (hb : DB X W b tb db) : DT X W (.Compare a [.Lt] [b] pos) (tTest (tOp (rI0 fun i j => .bl (decide (i < j))) ta tb)) (dTest (dOp ltD da db)) := ⟨pt_cmpR op_lt ha.pe hb.pe (nomark _), sn_test (de_lt ha hb (pos := pos)).b.sn⟩
theorem dt_le (ha : DB X W a ta da) (hb : DB X W b tb db) : DT X W (.Compare a [.LtE] [b] pos) (tTest (tOp (rI0 fun i j => .bl (decide (i ≤ j))) ta tb)) (dTest (dOp leD da db)) := ⟨pt_cmpR op_le ha.pe hb.pe (nomark _), sn_test (de_le ha hb (pos := pos)).b.sn⟩
theorem dt_gt (ha : DB X W a ta da) (hb : DB X W b tb db) : DT X W (.Compare a [.Gt] [b] pos) (tTest (tOp (rI0 fun i j => .bl (decide (j < i))) ta tb)) (dTest (dOp gtD da db)) := ⟨pt_cmpR op_gt ha.pe hb.pe (nomark _), sn_test (de_gt ha hb (pos := pos)).b.sn⟩
theorem dt_ge (ha : DB X W a ta da) (hb : DB X W b tb db) : DT X W (.Compare a [.GtE] [b] pos) (tTest (tOp (rI0 fun i j => .bl (decide (j ≤ i))) ta tb)) (dTest (dOp geD da db)) := ⟨pt_cmpR op_ge ha.pe hb.pe (nomark _), sn_test (de_ge ha hb (pos := pos)).b.sn⟩
theorem dt_eq (hu : X.A.units + 64 < cLine) (ha : DB X W a ta da) (hb : DB X W b tb db) : DT X W (.Compare a [.Eq] [b] pos) (tTest (tOp (rEqD2 X.K) ta tb)) (dTest (dOp eqD da db)) := ⟨pt_cmpR (op_eqD2 hu) ha.pe hb.pe (nomark _), sn_test (de_eq hu ha hb (pos := pos)).b.sn⟩
theorem dt_ne (hu : X.A.units + 64 < cLine) (ha : DB X W a ta da) (hb : DB X W b tb db) : DT X W (.Compare a [.NotEq] [b] pos) (tTest (tOp (rNeD2 X.K) ta tb)) (dTest (dOp neD da db)) := ⟨pt_cmpR (op_neD2 hu) ha.pe hb.pe (nomark _), sn_test (de_ne hu ha hb (pos := pos)).b.sn⟩
theorem dt_is (ha : DB X W a ta da) (hb : DB X W b tb db) : DT X W (.Compare a [.Is] [b] pos) (tTest (tOp (fun x y H Q => y = .non ∧ Q (.bl (decide (x = .non))) H) ta tb)) (dTest (dOp isD da db)) := ⟨pt_cmpR op_isN ha.pe hb.pe (nomark _), sn_test (de_is ha hb (pos := pos)).b.sn⟩
theorem dt_isNot (ha : DB X W a ta da) (hb : DB X W b tb db) : DT X W (.Compare a [.IsNot] [b] pos) (tTest (tOp (fun x y H Q => y = .non ∧ Q (.bl (!decide (x = .non))) H) ta tb)) (dTest (dOp isNotD da db)) := ⟨pt_cmpR op_notN ha.pe hb.pe (nomark _), sn_test (de_isNot ha hb (pos := pos)).b.sn⟩
theorem dt_inS (ha : DB X W a ta da) (hb : DB X W b tb db) (hm : behindInMarks .In b = false) : DT X W (.Compare a [.In] [b] pos) (tTest (tOp rInS ta tb)) (dTest (dOp inSD da db)) := ⟨pt_cmpR op_in_sign ha.pe hb.pe hm, sn_test (de_inS ha hb hm (pos := pos)).b.sn⟩
theorem dt_notInS (ha : DB X W a ta da) (hb : DB X W b tb db) (hm : behindInMarks .NotIn b = false) : DT X W (.Compare a [.NotIn] [b] pos) (tTest (tOp rNotInS ta tb)) (dTest (dOp notInSD da db)) := ⟨pt_cmpR op_notIn_sign ha.pe hb.pe hm, sn_test (de_notInS ha hb hm (pos := pos)).b.sn⟩
theorem dt_inL (ha : DB X W a ta da) (hb : DB X W b tb db) (hm : behindInMarks .In b = false) : DT X W (.Compare a [.In] [b] pos) (tTest (tOp (rIn X.K false) ta tb)) (dTest (dOp (inLD false) da db)) := ⟨pt_cmpR op_in_seq ha.pe hb.pe hm, sn_test (de_inL ha hb hm (pos := pos)).b.sn⟩
theorem dt_notInL (ha : DB X W a ta da) (hb : DB X W b tb db) (hm : behindInMarks .NotIn b = false) : DT X W (.Compare a [.NotIn] [b] pos) (tTest (tOp (rIn X.K true) ta tb)) (dTest (dOp (inLD true) da db)) := ⟨pt_cmpR op_notIn_seq ha.pe hb.pe hm, sn_test (de_notInL ha hb hm (pos := pos)).b.sn⟩
/-- any expression by its truth -/
theorem dt_tru (ha : DB X W a ta da) (he : ∀ whole, isTrue a X.env whole = (do let v ← whole; standAt a.pos; holding [v] (truthy v)) := by intro _; rfl) : DT X W a (fun σ H Q => ta σ H fun x H' => ∃ k, TruV X.K x H' k ∧ Q k H') (dTru da) := ⟨pt_truth ha.pe he, sn_tru ha.sn⟩
variable {t u : TT} {dt du : DTT} {rest : List Expr}
theorem dw_and1 (ha : DT X W a t dt) : DW X W (.BoolOp .And [a] pos) t dt := ⟨pw_and1 ha.pe, ha.sn⟩
theorem dw_or1 (ha : DT X W a t dt) : DW X W (.BoolOp .Or [a] pos) t dt := ⟨pw_or1 ha.pe, ha.sn⟩
theorem dw_and (ha : DT X W a t dt) (hb : DW X W (.BoolOp .And (b :: rest) pos) u du) : DW X W (.BoolOp .And (a :: b :: rest) pos) (tAnd t u) (dAndT dt du) := ⟨pw_and ha.pe hb.pe, sn_and ha.sn hb.sn⟩
theorem dw_or (ha : DT X W a t dt) (hb : DW X W (.BoolOp .Or (b :: rest) pos) u du) : DW X W (.BoolOp .Or (a :: b :: rest) pos) (tOr t u) (dOrT dt du) := ⟨pw_or ha.pe hb.pe, sn_or ha.sn hb.sn⟩
theorem dt_not (ha : DT X W a t dt) : DT X W (.UnaryOp .Not a pos) (tNot t) (dNotT dt) := ⟨pt_not ha.pe, sn_not ha.sn⟩
theorem de_if {c : Expr} (hc : DT X W c t dt) (ha : DE X W a ta da) (hb : DE X W b tb db) : DE X W (.IfExp c a b pos) (tIf t ta tb) (dIf dt da db) := ⟨pe_ifExp hc.pe ha.pe hb.pe, sn_ife hc.sn ha.sn hb.sn⟩
theorem de_one {op} (ha : DE X W a ta da) : DE X W (.BoolOp op [a] pos) ta da := ⟨pe_one ha.pe, ha.sn⟩
theorem de_and (ha : DB X W a ta da) (hb : DE X W (.BoolOp .And (b :: rest) pos) tb db) : DE X W (.BoolOp .And (a :: b :: rest) pos) (tAndV ta tb) (dAndV da db) := ⟨pe_and ha.pe hb.pe, sn_andV ha.sn hb.sn⟩
theorem de_or (ha : DB X W a ta da) (hb : DE X W (.BoolOp .Or (b :: rest) pos) tb db) : DE X W (.BoolOp .Or (a :: b :: rest) pos) (tOrV ta tb) (dOrV da db) := ⟨pe_or ha.pe hb.pe, sn_orV ha.sn hb.sn⟩
theorem de_not (ha : DB X W a ta da) : DE X W (.UnaryOp .Not a pos) (tNotV ta) (dNotV da) := ⟨pe_not ha.pe, sn_notV ha.sn⟩
end

/-! ### argument lists, displays -/
def dNil : DTA := fun ρ Q _ => Q [] ρ
def dCons (a : DTE) (r : DTA) : DTA := fun ρ Q E => a ρ (fun d ρ1 => r ρ1 (fun ds ρ2 => Q (d :: ds) ρ2) E) E
theorem sn_nil {K : Frg} {W : WX} : SndA K W tNil dNil := fun H0 A0 A σ H ρ Q E Qr x ht q e => q [] ρ [] H A x.afe Reps.nil ht
theorem sn_cons {K : Frg} {W : WX} {ta : TE} {da : DTE} {tr : TA} {dr : DTA} (ha : SndE K W ta da) (hr : SndA K W tr dr) : SndA K W (tCons ta tr) (dCons da dr) :=
  fun H0 A0 A σ H ρ Q E Qr x ht q e => ha H0 A0 A σ H ρ _ E _ x ht (fun d ρ1 v1 H1 A1 af1 r1 hq =>
    hr H0 A0 A1 σ H1 ρ1 _ E _ af1.ok hq (fun ds ρ2 vs H2 A2 af2 r2 hq2 => q _ ρ2 _ H2 A2 (af1.trans af2) (Reps.cons (r1.mono af2.go.le) r2) hq2) fun c ρ' H' A' af he => e c ρ' H' A' (af1.trans af) he) e
theorem sn_nilB {K : Frg} {W : WX} : SndAB K W tNil dNil := fun H0 A0 A σ H ρ Q E Qr x ht q e => q [] ρ [] H A x.afe rfl ht
theorem sn_consB {K : Frg} {W : WX} {ta : TE} {da : DTE} {tr : TA} {dr : DTA} (ha : SndB K W ta da) (hr : SndAB K W tr dr) : SndAB K W (tCons ta tr) (dCons da dr) :=
  fun H0 A0 A σ H ρ Q E Qr x ht q e => ha H0 A0 A σ H ρ _ E _ x ht (fun d ρ1 v1 H1 A1 af1 r1 hq =>
    hr H0 A0 A1 σ H1 ρ1 _ E _ af1.ok hq (fun ds ρ2 vs H2 A2 af2 r2 hq2 => q _ ρ2 _ H2 A2 (af1.trans af2) (RepBs.cons (r1.go af2.gf af2.go) r2) hq2) fun c ρ' H' A' af he => e c ρ' H' A' (af1.trans af) he) e
def dTup (t : DTA) : DTE := fun ρ Q E => t ρ (fun ds ρ' => ds.length ≤ sizeLine ∧ Q (.tup ds) ρ') E
def dLst (t : DTA) : DTE := fun ρ Q E => t ρ (fun ds ρ' => ds.length ≤ sizeLine ∧ Q (.lst ds) ρ') E
theorem sn_tup {K : Frg} {W : WX} {ta : TA} {da : DTA} (ha : SndA K W ta da) : SndE K W (tTup ta) (dTup da) :=
  fun H0 A0 A σ H ρ Q E Qr x ht q e => ha H0 A0 A σ H ρ _ E _ x ht (fun ds ρ1 vs H1 A1 af1 r1 hq =>
    ⟨by rw [← r1.length]; exact hq.1, fun p hp => q _ ρ1 _ _ A1 (af1.more (go_new hp)) (rep_newT hp (af1.ok.noA hp) r1) hq.2⟩) e
/-- a list just laid, owned by nobody -/
theorem fresh_laid {K : Frg} {H0 H H1 : Hp} {A0 : Bs} {A A1 : List Addr} {σ : L2.St} {ρ1 : DEnv} {p : Addr} {o : HO} (af1 : AfE K H0 A0 A H A1 σ H1 ρ1) (hp : H1 p = none) :
    AfE K H0 A0 A H (p :: A1) σ (upd H1 p o) ρ1 ∧ p ∈ p :: A1 ∧ p ∉ A0 ∧ NoSlot σ ρ1 p :=
  ⟨⟨af1.ok.newHid hp, af1.go.trans (go_new_hide hp), af1.gf.trans (go_new hp)⟩, List.mem_cons_self, af1.ok.noA0 hp, af1.ok.noSlot (af1.ok.noA hp)⟩
theorem sn_lst {K : Frg} {W : WX} {ta : TA} {da : DTA} (ha : SndA K W ta da) : SndF K W (tLst ta) (dLst da) :=
  fun H0 A0 A σ H ρ Q E Qr x ht q e => ha H0 A0 A σ H ρ _ E _ x ht (fun ds ρ1 vs H1 A1 af1 r1 hq =>
    ⟨by rw [← r1.length]; exact hq.1, fun p hp =>
      let ⟨f1, f2, f3, f4⟩ := fresh_laid (o := .lst vs) af1 hp
      q _ ρ1 p _ _ f1 f2 f3 f4 (Own.mkL upd_same (r1.mono (go_new_hide hp).le)) hq.2⟩) e
section
variable {X : Cx} {W : WX} {e : Expr} {es : List Expr} {te : TE} {t : TA} {de : DTE} {d : DTA} {pos : Pos}
theorem da_nil : DA X W [] tNil dNil := ⟨pa_nil, sn_nil⟩
theorem da_cons (ha : DE X W e te de) (hr : DA X W es t d) (hs : starEach (e :: es) X.env = (false, eval e X.env) :: starEach es X.env := by rfl) : DA X W (e :: es) (tCons te t) (dCons de d) := ⟨pa_cons ha.pe hr.pe hs, sn_cons ha.sn hr.sn⟩
theorem dab_nil : DAB X W [] tNil dNil := ⟨pa_nil, sn_nilB⟩
theorem dab_cons (ha : DB X W e te de) (hr : DAB X W es t d) (hs : starEach (e :: es) X.env = (false, eval e X.env) :: starEach es X.env := by rfl) : DAB X W (e :: es) (tCons te t) (dCons de d) := ⟨pa_cons ha.pe hr.pe hs, sn_consB ha.sn hr.sn⟩
theorem de_tup {k} (h : DA X W es t d) : DE X W (.Tuple es k pos) (tTup t) (dTup d) := ⟨pe_tup h.pe, sn_tup h.sn⟩
theorem df_lst (h : DA X W es t d) : DF X W (.List es pos) (tLst t) (dLst d) := ⟨pe_lst h.pe, sn_lst h.sn⟩
end

/-! ### slices -/
def dNoPart : DTO := fun ρ Q _ => Q none ρ
def dPart (t : DTE) : DTO := fun ρ Q E => t ρ (fun d ρ' => match d with
  | .int i => Q (some i) ρ'
  | _ => False) E
theorem sn_noPart {K : Frg} {W : WX} : SndO K W tNoPart dNoPart := fun H0 A0 A σ H ρ Q E Qr x ht q e => q none ρ none H A x.afe rfl ht
theorem sn_part {K : Frg} {W : WX} {ta : TE} {da : DTE} (ha : SndB K W ta da) : SndO K W (tPart ta) (dPart da) :=
  fun H0 A0 A σ H ρ Q E Qr x ht q e => ha H0 A0 A σ H ρ _ E _ x ht (fun d ρ1 v1 H1 A1 af1 r1 hq => by
    cases d with
    | int i =>
      cases repb_int r1
      exact ⟨i, rfl, q _ ρ1 _ H1 A1 af1 rfl hq⟩
    | _ => exact hq.elim) e
def cutD (ds : List D) (lo hi : Option Int) : List D := (ds.drop (HT.sIx ds.length 0 lo)).take (HT.sIx ds.length ds.length hi - HT.sIx ds.length 0 lo)
theorem Reps.cut {K : Frg} {H : Hp} {ds : List D} {vs : List V} {lo hi : Option Int} (h : Reps K H ds vs) : Reps K H (cutD ds lo hi) (cutV vs lo hi) := by
  unfold cutD cutV
  rw [h.length]
  exact (h.drop _).take _
abbrev OpSl := D → Option Int → Option Int → (D → Prop) → Prop
def slD : OpSl
  | .lst ds, lo, hi, P => P (.lst (cutD ds lo hi))
  | .fz ds, lo, hi, P => P (.lst (cutD ds lo hi))
  | .str z, lo, hi, P => z.length ≤ sizeLine ∧ P (.str (cutS z lo hi))
  | .tup ds, lo, hi, P => ¬ (HT.sIx ds.length 0 lo = 0 ∧ HT.sIx ds.length ds.length hi = ds.length) ∧ P (.tup (cutD ds lo hi))
  | _, _, _, _ => False
def rSlD (K : Frg) : V → Option Int → Option Int → Hp → VK → Prop := fun x lo hi H Q => rSlL K x lo hi H Q ∨ (rSlS x lo hi H Q ∨ rSlT K x lo hi H Q)
theorem sl_all {X : Cx} : SlR X (rSlD X.K) := sl_list.or (sl_str.or sl_tup)
def dSl (op : OpSl) (ta : DTE) (tl th : DTO) : DTE := fun ρ Q E => ta ρ (fun d ρ1 => tl ρ1 (fun lo ρ2 => th ρ2 (fun hi ρ3 => op d lo hi fun c => Q c ρ3) E) E) E
theorem sn_sl {K : Frg} {W : WX} {ta : TE} {tl th : TO} {da : DTE} {dl dh : DTO} (ha : SndB K W ta da) (hl : SndO K W tl dl) (hh : SndO K W th dh) : SndE K W (tSl (rSlD K) ta tl th) (dSl slD da dl dh) :=
  fun H0 A0 A σ H ρ Q E Qr x ht q e => ha H0 A0 A σ H ρ _ E _ x ht (fun d ρ1 v1 H1 A1 af1 r1 hq =>
    hl H0 A0 A1 σ H1 ρ1 _ E _ af1.ok hq (fun lo ρ2 lo' H2 A2 af2 e2 hq2 =>
      hh H0 A0 A2 σ H2 ρ2 _ E _ af2.ok hq2 (fun hi ρ3 hi' H3 A3 af3 e3 hq3 => by
        subst e2; subst e3
        have af := (af1.trans af2).trans af3
        have r3 := r1.go (af2.gf.trans af3.gf) (af2.go.trans af3.go)
        unfold slD at hq3
        split at hq3
        · obtain ⟨a, xs, rfl, s, r⟩ := r3
          exact .inl ⟨a, xs, rfl, .of s, fun p hp => q _ ρ3 _ _ A3 (af.more (go_new hp)) (rep_newL hp (af.ok.noA hp) r.cut) hq3⟩
        · obtain ⟨a, xs, rfl, s, r⟩ := r3
          exact .inl ⟨a, xs, rfl, s, fun p hp => q _ ρ3 _ _ A3 (af.more (go_new hp)) (rep_newL hp (af.ok.noA hp) r.cut) hq3⟩
        · cases repb_str r3
          exact .inr (.inl ⟨_, rfl, hq3.1, q _ ρ3 _ _ A3 af rep_str hq3.2⟩)
        · obtain ⟨a, xs, rfl, s, r⟩ := r3
          refine .inr (.inr ⟨a, xs, rfl, s, by rw [← r.length]; exact hq3.1, fun p hp => q _ ρ3 _ _ A3 (af.more (go_new hp)) (rep_newT hp (af.ok.noA hp) r.cut) hq3.2⟩)
        · exact hq3.elim) fun c ρ' H' A' af he => e c ρ' H' A' ((af1.trans af2).trans af) he) fun c ρ' H' A' af he => e c ρ' H' A' (af1.trans af) he) e
/-- of a list: fresh -/
def slDL : OpSl
  | .lst ds, lo, hi, P => P (.lst (cutD ds lo hi))
  | .fz ds, lo, hi, P => P (.lst (cutD ds lo hi))
  | _, _, _, _ => False
theorem sn_slF {K : Frg} {W : WX} {ta : TE} {tl th : TO} {da : DTE} {dl dh : DTO} (ha : SndB K W ta da) (hl : SndO K W tl dl) (hh : SndO K W th dh) : SndF K W (tSl (rSlL K) ta tl th) (dSl slDL da dl dh) :=
  fun H0 A0 A σ H ρ Q E Qr x ht q e => ha H0 A0 A σ H ρ _ E _ x ht (fun d ρ1 v1 H1 A1 af1 r1 hq =>
    hl H0 A0 A1 σ H1 ρ1 _ E _ af1.ok hq (fun lo ρ2 lo' H2 A2 af2 e2 hq2 =>
      hh H0 A0 A2 σ H2 ρ2 _ E _ af2.ok hq2 (fun hi ρ3 hi' H3 A3 af3 e3 hq3 => by
        subst e2; subst e3
        have af := (af1.trans af2).trans af3
        have r3 := r1.go (af2.gf.trans af3.gf) (af2.go.trans af3.go)
        unfold slDL at hq3
        split at hq3
        · obtain ⟨a, xs, rfl, s, r⟩ := r3
          refine ⟨a, xs, rfl, .of s, fun p hp => ?_⟩
          obtain ⟨f1, f2, f3, f4⟩ := fresh_laid (o := .lst _) af hp
          exact q _ ρ3 p _ _ f1 f2 f3 f4 (Own.mkL upd_same (r.cut.mono (go_new_hide hp).le)) hq3
        · obtain ⟨a, xs, rfl, s, r⟩ := r3
          refine ⟨a, xs, rfl, s, fun p hp => ?_⟩
          obtain ⟨f1, f2, f3, f4⟩ := fresh_laid (o := .lst _) af hp
          exact q _ ρ3 p _ _ f1 f2 f3 f4 (Own.mkL upd_same (r.cut.mono (go_new_hide hp).le)) hq3
        · exact hq3.elim) fun c ρ' H' A' af he => e c ρ' H' A' ((af1.trans af2).trans af) he) fun c ρ' H' A' af he => e c ρ' H' A' (af1.trans af) he) e
section
variable {X : Cx} {W : WX} {e : Expr} {lo hi : Option Expr} {te : TE} {tl th : TO} {d : DTE} {dl dh : DTO} {pos p2 : Pos}
theorem do_none : DO X W none tNoPart dNoPart := ⟨po_none, sn_noPart⟩
theorem do_some {e : Expr} (h : DB X W e te d) : DO X W (some e) (tPart te) (dPart d) := ⟨po_some h.pe, sn_part h.sn⟩
theorem de_sl (he : DB X W e te d) (hl : DO X W lo tl dl) (hh : DO X W hi th dh) : DE X W (.Subscript e (.Slice lo hi none p2) pos) (tSl (rSlD X.K) te tl th) (dSl slD d dl dh) := ⟨pe_slice sl_all he.pe hl.pe hh.pe, sn_sl he.sn hl.sn hh.sn⟩
theorem df_sl (he : DB X W e te d) (hl : DO X W lo tl dl) (hh : DO X W hi th dh) : DF X W (.Subscript e (.Slice lo hi none p2) pos) (tSl (rSlL X.K) te tl th) (dSl slDL d dl dh) := ⟨pe_slice sl_list he.pe hl.pe hh.pe, sn_slF he.sn hl.sn hh.sn⟩
end

/-! ### lists by operators: fresh -/
/-- a + b of lists -/
def catD : Op2
  | .lst xs, .lst ys, P => xs.length + ys.length ≤ sizeLine ∧ P (.lst (xs ++ ys))
  | _, _, _ => False
theorem sn_catF {K : Frg} {W : WX} {ta tb : TE} {da db : DTE} (ha : SndB K W ta da) (hb : SndB K W tb db) : SndF K W (tOp rCat ta tb) (dOp catD da db) :=
  fun H0 A0 A σ H ρ Q E Qr x ht q e => ha H0 A0 A σ H ρ _ E _ x ht (fun d ρ1 v1 H1 A1 af1 r1 hq =>
    hb H0 A0 A1 σ H1 ρ1 _ E _ af1.ok hq (fun d2 ρ2 v2 H2 A2 af2 r2 hop => by
      have af := af1.trans af2
      have r3 := r1.go af2.gf af2.go
      unfold catD at hop
      split at hop
      · obtain ⟨a, xs, rfl, h1, r1⟩ := r3
        obtain ⟨b, ys, rfl, h2, r2⟩ := r2
        refine ⟨a, b, xs, ys, rfl, rfl, h1, h2, by rw [← r1.length, ← r2.length]; exact hop.1, fun p hp => ?_⟩
        obtain ⟨f1, f2, f3, f4⟩ := fresh_laid (o := .lst (xs ++ ys)) af hp
        exact q _ ρ2 p _ _ f1 f2 f3 f4 (Own.mkL upd_same ((r1.append r2).mono (go_new_hide hp).le)) hop.2
      · exact hop.elim) fun c ρ' H' A' af he => e c ρ' H' A' (af1.trans af) he) e
def repD : Op2
  | .lst xs, .int k, P => -(2 ^ 63) ≤ k ∧ k < 2 ^ 63 ∧ xs.length * k.toNat ≤ sizeLine ∧ P (.lst (List.replicate k.toNat xs).flatten)
  | _, _, _ => False
theorem sn_repF {K : Frg} {W : WX} {ta tb : TE} {da db : DTE} (ha : SndB K W ta da) (hb : SndB K W tb db) : SndF K W (tOp rRep ta tb) (dOp repD da db) :=
  fun H0 A0 A σ H ρ Q E Qr x ht q e => ha H0 A0 A σ H ρ _ E _ x ht (fun d ρ1 v1 H1 A1 af1 r1 hq =>
    hb H0 A0 A1 σ H1 ρ1 _ E _ af1.ok hq (fun d2 ρ2 v2 H2 A2 af2 r2 hop => by
      have af := af1.trans af2
      have r3 := r1.go af2.gf af2.go
      unfold repD at hop
      split at hop
      · obtain ⟨a, xs, rfl, h1, r1⟩ := r3
        cases repb_int r2
        obtain ⟨q1, q2, q3, q4⟩ := hop
        refine ⟨a, _, xs, rfl, rfl, h1, q1, q2, by rw [← r1.length]; exact q3, fun p hp => ?_⟩
        obtain ⟨f1, f2, f3, f4⟩ := fresh_laid (o := .lst _) af hp
        exact q _ ρ2 p _ _ f1 f2 f3 f4 (Own.mkL upd_same ((r1.rep _).mono (go_new_hide hp).le)) q4
      · exact hop.elim) fun c ρ' H' A' af he => e c ρ' H' A' (af1.trans af) he) e
theorem df_cat {X : Cx} {W : WX} {a b : Expr} {ta tb : TE} {da db : DTE} {pos : Pos} (ha : DB X W a ta da) (hb : DB X W b tb db) : DF X W (.BinOp a .Add b pos) (tOp rCat ta tb) (dOp catD da db) := ⟨pe_op op_cat ha.pe hb.pe, sn_catF ha.sn hb.sn⟩
theorem df_rep {X : Cx} {W : WX} {a b : Expr} {ta tb : TE} {da db : DTE} {pos : Pos} (ha : DB X W a ta da) (hb : DB X W b tb db) : DF X W (.BinOp a .Mult b pos) (tOp rRep ta tb) (dOp repD da db) := ⟨pe_op op_rep ha.pe hb.pe, sn_repF ha.sn hb.sn⟩

/-! ### calls of built-ins, by values -/
abbrev OpC := List D → (D → Prop) → Prop
def CallS (K : Frg) (r : List V → Hp → VK → Prop) (op : OpC) : Prop := ∀ (B : List Addr) (H : Hp) (vs : List V) (ds : List D) (P : D → Prop) (Q : VK), (∀ p, H p = none → p ∉ B) → RepBs K B H ds vs → op ds P →
  (∀ c z H', Go H H' → Rep K (hide B H') c z → P c → Q z H') → r vs H Q
def dCB (op : OpC) (da : DTA) : DTE := fun ρ Q E => da ρ (fun ds ρ1 => op ds fun c => Q c ρ1) E
theorem sn_cb {K : Frg} {W : WX} {r : List V → Hp → VK → Prop} {op : OpC} {ta : TA} {da : DTA} (ha : SndAB K W ta da) (hr : CallS K r op) : SndE K W (tCB r ta) (dCB op da) :=
  fun H0 A0 A σ H ρ Q E Qr x ht q e => ha H0 A0 A σ H ρ _ E _ x ht (fun ds ρ1 vs H1 A1 af1 r1 hq => hr A1 H1 vs ds _ _ (fun p h => af1.ok.noA h) r1 hq fun c z H3 g r3 hc => q c ρ1 z H3 A1 (af1.more g) r3 hc) e
section
variable {K : Frg} {B : List Addr} {H : Hp} {vs : List V}
theorem bs1 {d : D} (h : RepBs K B H [d] vs) : ∃ v, vs = [v] ∧ RepB K B H d v := by
  obtain ⟨v, r, rfl, h1, rfl⟩ := h
  exact ⟨v, rfl, h1⟩
theorem bs2 {d e : D} (h : RepBs K B H [d, e] vs) : ∃ v w, vs = [v, w] ∧ RepB K B H d v ∧ RepB K B H e w := by
  obtain ⟨v, r, rfl, h1, w, r', rfl, h2, rfl⟩ := h
  exact ⟨v, w, rfl, h1, h2⟩
end
def absD : OpC
  | [.int i], P => P (.int (if i < 0 then -i else i))
  | _, _ => False
theorem calls_abs {K : Frg} : CallS K (fun xs H Q => ∃ i, xs = [.int i] ∧ Q (.int (if i < 0 then -i else i)) H) absD := fun B H vs ds P Q nb rx hop k => by
  unfold absD at hop
  split at hop
  · obtain ⟨v, rfl, h⟩ := bs1 rx
    cases repb_int h
    exact ⟨_, rfl, k _ _ H (Go.refl _) rep_int hop⟩
  · exact hop.elim
def lenD : OpC
  | [.lst ds], P => P (.int ds.length)
  | [.fz ds], P => P (.int ds.length)
  | [.tup ds], P => P (.int ds.length)
  | [.str z], P => z.length ≤ sizeLine ∧ P (.int z.length)
  | _, _ => False
theorem calls_len {K : Frg} : CallS K (fun xs H Q => ∃ x n, xs = [x] ∧ LenV K x H n ∧ Q (.int n) H) lenD := fun B H vs ds P Q nb rx hop k => by
  unfold lenD at hop
  split at hop
  · obtain ⟨v, rfl, h⟩ := bs1 rx
    obtain ⟨a, xs, rfl, s, r⟩ := h
    exact ⟨_, _, rfl, .inl ⟨xs, .of s, rfl⟩, k _ _ H (Go.refl _) rep_int (by rw [← r.length]; exact hop)⟩
  · obtain ⟨v, rfl, h⟩ := bs1 rx
    obtain ⟨a, xs, rfl, s, r⟩ := h
    exact ⟨_, _, rfl, .inl ⟨xs, s, rfl⟩, k _ _ H (Go.refl _) rep_int (by rw [← r.length]; exact hop)⟩
  · obtain ⟨v, rfl, h⟩ := bs1 rx
    obtain ⟨a, xs, rfl, s, r⟩ := h
    exact ⟨_, _, rfl, .inr ⟨xs, s, rfl⟩, k _ _ H (Go.refl _) rep_int (by rw [← r.length]; exact hop)⟩
  · obtain ⟨v, rfl, h⟩ := bs1 rx
    cases repb_str h
    exact ⟨_, _, rfl, ⟨hop.1, rfl⟩, k _ _ H (Go.refl _) rep_int hop.2⟩
  · exact hop.elim
def max2D : OpC
  | [.int i, .int j], P => P (.int (if j > i then j else i))
  | _, _ => False
def min2D : OpC
  | [.int i, .int j], P => P (.int (if j < i then j else i))
  | _, _ => False
theorem calls_max2 {K : Frg} : CallS K (fun xs H Q => ∃ i j, xs = [.int i, .int j] ∧ Q (.int (if j > i then j else i)) H) max2D := fun B H vs ds P Q nb rx hop k => by
  unfold max2D at hop
  split at hop
  · obtain ⟨v, w, rfl, h1, h2⟩ := bs2 rx
    cases repb_int h1; cases repb_int h2
    exact ⟨_, _, rfl, k _ _ H (Go.refl _) rep_int hop⟩
  · exact hop.elim
theorem calls_min2 {K : Frg} : CallS K (fun xs H Q => ∃ i j, xs = [.int i, .int j] ∧ Q (.int (if j < i then j else i)) H) min2D := fun B H vs ds P Q nb rx hop k => by
  unfold min2D at hop
  split at hop
  · obtain ⟨v, w, rfl, h1, h2⟩ := bs2 rx
    cases repb_int h1; cases repb_int h2
    exact ⟨_, _, rfl, k _ _ H (Go.refl _) rep_int hop⟩
  · exact hop.elim
/-- int(flag), int(number), int(text) -/
def intD : OpC
  | [.int i], P => P (.int i)
  | [.bl b], P => P (.int (if b then 1 else 0))
  | [.str z], P => ∃ n, PySem.intText? z = some n ∧ z.length ≤ 640 ∧ P (.int n)
  | _, _ => False
def rIntD : List V → Hp → VK → Prop := fun xs H Q => ((∃ i, xs = [.int i] ∧ Q (.int i) H) ∨ ∃ k, xs = [.bl k] ∧ Q (.int (if k then 1 else 0)) H) ∨ ∃ a n, xs = [.str a] ∧ PySem.intText? a = some n ∧ a.length ≤ 640 ∧ Q (.int n) H
theorem call_intD {X : Cx} : CallR X (.type "int") rIntD := call_int1.or call_int_str
theorem calls_int {K : Frg} : CallS K rIntD intD := fun B H vs ds P Q nb rx hop k => by
  unfold intD at hop
  split at hop
  · obtain ⟨v, rfl, h⟩ := bs1 rx
    cases repb_int h
    exact .inl (.inl ⟨_, rfl, k _ _ H (Go.refl _) rep_int hop⟩)
  · obtain ⟨v, rfl, h⟩ := bs1 rx
    cases repb_bl h
    exact .inl (.inr ⟨_, rfl, k _ _ H (Go.refl _) rep_int hop⟩)
  · obtain ⟨v, rfl, h⟩ := bs1 rx
    cases repb_str h
    obtain ⟨n, h1, h2, h3⟩ := hop
    exact .inr ⟨_, n, rfl, h1, h2, k _ _ H (Go.refl _) rep_int h3⟩
  · exact hop.elim
def strD : OpC
  | [.int i], P => i.natAbs.log2 < 1920 ∧ P (.str (Str.ofString (toString i)))
  | _, _ => False
theorem calls_str {K : Frg} : CallS K (fun xs H Q => ∃ i, xs = [.int i] ∧ i.natAbs.log2 < 1920 ∧ Q (.str (toString i)) H) strD := fun B H vs ds P Q nb rx hop k => by
  unfold strD at hop
  split at hop
  · obtain ⟨v, rfl, h⟩ := bs1 rx
    cases repb_int h
    exact ⟨_, rfl, hop.1, k _ _ H (Go.refl _) rep_str hop.2⟩
  · exact hop.elim
/-- tuple(xs) of a list -/
def tupleD : OpC
  | [.lst ds], P => P (.tup ds)
  | [.fz ds], P => P (.tup ds)
  | _, _ => False
theorem calls_tuple {K : Frg} : CallS K (fun xs H Q => ∃ p ys, xs = [.ref p] ∧ ((SqL K H p ys ∧ ∀ l, H l = none → Q (.ref l) (upd H l (.tup ys))) ∨ (SqT K H p ys ∧ Q (.ref p) H))) tupleD := fun B H vs ds P Q nb rx hop k => by
  unfold tupleD at hop
  split at hop
  · obtain ⟨v, rfl, h⟩ := bs1 rx
    obtain ⟨a, xs, rfl, s, r⟩ := h
    exact ⟨a, xs, rfl, .inl ⟨.of s, fun l hl => k _ _ _ (go_new hl) (rep_newT hl (nb l hl) r) hop⟩⟩
  · obtain ⟨v, rfl, h⟩ := bs1 rx
    obtain ⟨a, xs, rfl, s, r⟩ := h
    exact ⟨a, xs, rfl, .inl ⟨s, fun l hl => k _ _ _ (go_new hl) (rep_newT hl (nb l hl) r) hop⟩⟩
  · exact hop.elim
/-- list(xs) of a list, a tuple: fresh -/
def listD : OpC
  | [.lst ds], P => P (.lst ds)
  | [.fz ds], P => P (.lst ds)
  | [.tup ds], P => P (.lst ds)
  | _, _ => False
def rListD (K : Frg) : List V → Hp → VK → Prop := fun xs H Q => ∃ p ys, xs = [.ref p] ∧ (SqL K H p ys ∨ SqT K H p ys) ∧ ∀ l, H l = none → Q (.ref l) (upd H l (.lst ys))
theorem sn_listF {K : Frg} {W : WX} {ta : TA} {da : DTA} (ha : SndAB K W ta da) : SndF K W (tCB (rListD K) ta) (dCB listD da) :=
  fun H0 A0 A σ H ρ Q E Qr x ht q e => ha H0 A0 A σ H ρ _ E _ x ht (fun ds ρ1 vs H1 A1 af1 r1 hop => by
    unfold listD at hop
    split at hop
    all_goals first
      | exact hop.elim
      | (obtain ⟨v, rfl, h⟩ := bs1 r1
         obtain ⟨a, xs, rfl, s, r⟩ := h
         refine ⟨a, xs, rfl, (by first | exact .inl (.of s) | exact .inl s | exact .inr s), fun p hp => ?_⟩
         obtain ⟨f1, f2, f3, f4⟩ := fresh_laid (o := .lst xs) af1 hp
         exact q _ ρ1 p _ _ f1 f2 f3 f4 (Own.mkL upd_same (r.mono (go_new_hide hp).le)) hop)) e
/-- sum, max, min of a list of whole numbers -/
def sumD : OpC := fun ds P => ∃ ns : List Int, (ds = [.lst (ns.map D.int)] ∨ ds = [.fz (ns.map D.int)]) ∧ P (.int ns.sum)
theorem seq_ints {K : Frg} {B : List Addr} {H : Hp} {ns : List Int} {ds : List D} {vs : List V} (h : RepBs K B H ds vs) (e : ds = [.lst (ns.map D.int)] ∨ ds = [.fz (ns.map D.int)]) : ∃ a, vs = [V.ref a] ∧ SqL K H a (ns.map V.int) := by
  rcases e with rfl | rfl
  · obtain ⟨v, rfl, h'⟩ := bs1 h
    obtain ⟨a, xs, rfl, s, r⟩ := h'
    rw [reps_ints_inv r] at s
    exact ⟨a, rfl, .of s⟩
  · obtain ⟨v, rfl, h'⟩ := bs1 h
    obtain ⟨a, xs, rfl, s, r⟩ := h'
    rw [reps_ints_inv r] at s
    exact ⟨a, rfl, s⟩
theorem calls_sum {K : Frg} : CallS K (rSum K) sumD := fun B H vs ds P Q nb rx hop k => by
  obtain ⟨ns, e, h⟩ := hop
  obtain ⟨a, rfl, s⟩ := seq_ints rx e
  exact ⟨a, ns, rfl, s, k _ _ H (Go.refl _) rep_int h⟩
def maxLD : OpC := fun ds P => ∃ ns : List Int, (ds = [.lst (ns.map D.int)] ∨ ds = [.fz (ns.map D.int)]) ∧ 0 < ns.length ∧ ∀ m, m ∈ ns → (∀ y, y ∈ ns → y ≤ m) → P (.int m)
def minLD : OpC := fun ds P => ∃ ns : List Int, (ds = [.lst (ns.map D.int)] ∨ ds = [.fz (ns.map D.int)]) ∧ 0 < ns.length ∧ ∀ m, m ∈ ns → (∀ y, y ∈ ns → m ≤ y) → P (.int m)
theorem calls_maxL {K : Frg} : CallS K (rMax K) maxLD := fun B H vs ds P Q nb rx hop k => by
  obtain ⟨ns, e, h1, h2⟩ := hop
  obtain ⟨a, rfl, s⟩ := seq_ints rx e
  exact ⟨a, ns, rfl, s, h1, fun m h3 h4 => k _ _ H (Go.refl _) rep_int (h2 m h3 h4)⟩
theorem calls_minL {K : Frg} : CallS K (rMin K) minLD := fun B H vs ds P Q nb rx hop k => by
  obtain ⟨ns, e, h1, h2⟩ := hop
  obtain ⟨a, rfl, s⟩ := seq_ints rx e
  exact ⟨a, ns, rfl, s, h1, fun m h3 h4 => k _ _ H (Go.refl _) rep_int (h2 m h3 h4)⟩
section
variable {X : Cx} {W : WX} {e : Expr} {es : List Expr} {t : TA} {d : DTA} {p pos : Pos} {x : Str}
theorem de_cb {op : OpC} {r : List V → Hp → VK → Prop} {id : String} (hc : CallR X (.builtin id) r) (hs : CallS X.K r op) (hg : Gl X x) (hm : X.mg x = none) (hv : bootBuiltins x = some (.builtin id)) (ha : DAB X W (e :: es) t d)
    (hn : x ≠ "__name__" := by decide) (hdb : (x == ("__debug__" : Str)) = false := by decide) (he : starEach (e :: es) X.env = (false, eval e X.env) :: starEach es X.env := by rfl) (hpl : (backTo pos (starEach es X.env)).any (·.1) = false := by rfl) :
    DE X W (.Call (.Name x p) (e :: es) [] pos) (tCB r t) (dCB op d) := ⟨pe_callB hc hg hm hv ha.pe hn hdb he hpl, sn_cb ha.sn hs⟩
theorem de_cty {op : OpC} {r : List V → Hp → VK → Prop} {T : String} (hc : CallR X (.type T) r) (hs : CallS X.K r op) (hg : Gl X x) (hm : X.mg x = none) (hv : bootBuiltins x = some (.type T)) (ha : DAB X W (e :: es) t d)
    (hn : x ≠ "__name__" := by decide) (hdb : (x == ("__debug__" : Str)) = false := by decide) (he : starEach (e :: es) X.env = (false, eval e X.env) :: starEach es X.env := by rfl) (hpl : (backTo pos (starEach es X.env)).any (·.1) = false := by rfl) :
    DE X W (.Call (.Name x p) (e :: es) [] pos) (tCB r t) (dCB op d) := ⟨pe_callTy hc hg hm hv ha.pe hn hdb he hpl, sn_cb ha.sn hs⟩
theorem df_list (hg : Gl X x) (hm : X.mg x = none) (hv : bootBuiltins x = some (.type "list")) (ha : DAB X W (e :: es) t d)
    (hn : x ≠ "__name__" := by decide) (hdb : (x == ("__debug__" : Str)) = false := by decide) (he : starEach (e :: es) X.env = (false, eval e X.env) :: starEach es X.env := by rfl) (hpl : (backTo pos (starEach es X.env)).any (·.1) = false := by rfl) :
    DF X W (.Call (.Name x p) (e :: es) [] pos) (tCB (rListD X.K) t) (dCB listD d) := ⟨pe_callTy call_list_of hg hm hv ha.pe hn hdb he hpl, sn_listF ha.sn⟩
end
end DL

end

section
/-! The D layer, 5: statements, loops. -/
namespace DL
open PySem PySem.Spec PyProof.Rows L2
section
variable {K : Frg} {W : WX} {fr : Bool}
/-! ### small statements -/
def dNext : DTS := fun DD ρ => DD.nx ρ
def dSeq (t u : DTS) : DTS := fun DD ρ => t { DD with nx := u DD } ρ
theorem ss_next : SndS K W fr tNext dNext := fun H0 A0 A σ H ρ DD D x ht l => l.nx ρ σ H A x.aft ht
theorem ss_seq {t u : TS} {dt du : DTS} (h1 : SndS K W fr t dt) (h2 : SndS K W fr u du) : SndS K W fr (tSeq t u) (dSeq dt du) := fun H0 A0 A σ H ρ DD D x ht l =>
  h1 H0 A0 A σ H ρ { DD with nx := du DD } { D with nx := u D } x ht
    ⟨fun ρ' σ' H' A' af h => h2 H0 A0 A' σ' H' ρ' DD D af.ok h (l.from af), l.rt, l.bk, l.ct, l.ex⟩
def dBreak : DTS := fun DD ρ => DD.bk ρ
def dCont : DTS := fun DD ρ => DD.ct ρ
theorem ss_break : SndS K W fr tBreak dBreak := fun H0 A0 A σ H ρ DD D x ht l => l.bk ρ σ H A x.aft ht
theorem ss_cont : SndS K W fr tCont dCont := fun H0 A0 A σ H ρ DD D x ht l => l.ct ρ σ H A x.aft ht
def dDrop (t : DTE) : DTS := fun DD ρ => t ρ (fun _ ρ' => DD.nx ρ') DD.ex
theorem ss_drop {te : TE} {t : DTE} (h : SndB K W te t) : SndS K W fr (tDrop te) (dDrop t) := fun H0 A0 A σ H ρ DD D x ht l =>
  h H0 A0 A σ H ρ _ _ _ x ht (fun d ρ' v H' A' af _ hq => l.nx ρ' σ H' A' af.aft hq) fun c ρ' H' A' af he => l.ex c ρ' σ H' A' af.aft he
def dRet (t : DTE) : DTS := fun DD ρ => t ρ (fun d _ => DD.rt d) DD.ex
theorem ss_ret {te : TE} {t : DTE} (h : SndE K W te t) : SndS K W false (tRet te) (dRet t) := fun H0 A0 A σ H ρ DD D x ht l =>
  h H0 A0 A σ H ρ _ _ _ x ht (fun d ρ' v H' A' af r hq => l.rt d ρ' σ v H' A' af.aft (fun q => nomatch q) (fun _ => r) hq) fun c ρ' H' A' af he => l.ex c ρ' σ H' A' af.aft he
theorem ss_retF {te : TE} {t : DTE} (h : SndF K W te t) : SndS K W true (tRet te) (dRet t) := fun H0 A0 A σ H ρ DD D x ht l =>
  h H0 A0 A σ H ρ _ _ _ x ht (fun d ρ' p H' A' af hp h0 ns r hq => l.rt d ρ' σ (.ref p) H' A' af.aft (fun _ => ⟨p, rfl, hp, h0, ns, r⟩) (fun q => nomatch q) hq) fun c ρ' H' A' af he => l.ex c ρ' σ H' A' af.aft he
def dRetN : DTS := fun DD _ => DD.rt .non
theorem ss_retN : SndS K W false tRetN dRetN := fun H0 A0 A σ H ρ DD D x ht l => l.rt .non ρ σ .non H A x.aft (fun q => nomatch q) (fun _ => rep_non) ht
def dIfS (c : DTT) (t u : DTS) : DTS := fun DD ρ => c ρ (fun b ρ' => if b = true then t DD ρ' else u DD ρ') DD.ex
theorem ss_if {c : TT} {dc : DTT} {t u : TS} {dt du : DTS} (hc : SndT K W c dc) (h1 : SndS K W fr t dt) (h2 : SndS K W fr u du) : SndS K W fr (tIfS c t u) (dIfS dc dt du) := fun H0 A0 A σ H ρ DD D x ht l =>
  hc H0 A0 A σ H ρ _ _ _ x ht (fun b ρ' v H' A' af r hq => by
    subst r
    cases v with
    | true => exact h1 H0 A0 A' σ H' ρ' DD D af.ok hq (l.from af.aft)
    | false => exact h2 H0 A0 A' σ H' ρ' DD D af.ok hq (l.from af.aft)) fun c ρ' H' A' af he => l.ex c ρ' σ H' A' af.aft he
def dNever : DTS := fun _ _ => False
theorem ss_never : SndS K W fr tNever dNever := fun H0 A0 A σ H ρ DD D x ht l => ht.elim

/-! ### stores -/
def dSet (i : Nat) (t : DTE) : DTS := fun DD ρ => t ρ (fun d ρ' => DD.nx (ρ'.set i (.sh d))) DD.ex
def dOwn (i : Nat) (t : DTE) : DTS := fun DD ρ => t ρ (fun d ρ' => DD.nx (ρ'.set i (.ow d))) DD.ex
theorem ss_set {i : Nat} {te : TE} {t : DTE} (h : SndE K W te t) : SndS K W fr (tAsg te (gName i)) (dSet i t) := fun H0 A0 A σ H ρ DD D x ht l =>
  h H0 A0 A σ H ρ _ _ _ x ht (fun d ρ' v H' A' af r hq => l.nx _ _ H' A' ⟨af.ok.setSh r, af.go⟩ hq) fun c ρ' H' A' af he => l.ex c ρ' σ H' A' af.aft he
theorem ss_own {i : Nat} {te : TE} {t : DTE} (h : SndF K W te t) (hi0 : i ≠ 0) : SndS K W fr (tAsg te (gName i)) (dOwn i t) := fun H0 A0 A σ H ρ DD D x ht l =>
  h H0 A0 A σ H ρ _ _ _ x ht (fun d ρ' p H' A' af hp h0 ns r hq => l.nx _ _ H' A' ⟨af.ok.setOw hp h0 ns r hi0, af.go⟩ hq) fun c ρ' H' A' af he => l.ex c ρ' σ H' A' af.aft he
/-- targets -/
abbrev DTG := D → DEnv → (DEnv → Prop) → Prop
def SndG (K : Frg) (g : TG) (dg : DTG) : Prop := ∀ (H0 : Hp) (A0 : Bs) (A : List Addr) (σ : L2.St) (H : Hp) (ρ : DEnv) (v : V) (d : D) (Q : DEnv → Prop) (Qr : L2.St → Hp → Prop), EnvOk K H0 A0 A σ H ρ → Rep K (hide A H) d v → dg d ρ Q →
  (∀ ρ' σ', EnvOk K H0 A0 A σ' H ρ' → Q ρ' → Qr σ' H) → g v σ H Qr
def dgName (i : Nat) : DTG := fun d ρ Q => Q (ρ.set i (.sh d))
theorem sg_name {i : Nat} : SndG K (gName i) (dgName i) := fun H0 A0 A σ H ρ v d Q Qr x r hd q => q _ _ (x.setSh r) hd
abbrev DTGs := List D → DEnv → (DEnv → Prop) → Prop
def SndGs (K : Frg) (g : TGs) (dg : DTGs) : Prop := ∀ (H0 : Hp) (A0 : Bs) (A : List Addr) (σ : L2.St) (H : Hp) (ρ : DEnv) (vs : List V) (ds : List D) (Q : DEnv → Prop) (Qr : L2.St → Hp → Prop), EnvOk K H0 A0 A σ H ρ → Reps K (hide A H) ds vs → dg ds ρ Q →
  (∀ ρ' σ', EnvOk K H0 A0 A σ' H ρ' → Q ρ' → Qr σ' H) → g vs σ H Qr
def dgNil : DTGs := fun ds ρ Q => ds = [] ∧ Q ρ
def dgCons (g : DTG) (r : DTGs) : DTGs := fun ds ρ Q => match ds with
  | d :: ds => g d ρ fun ρ' => r ds ρ' Q
  | [] => False
theorem sg_nil : SndGs K gNil dgNil := fun H0 A0 A σ H ρ vs ds Q Qr x r hd q => by
  obtain ⟨rfl, h⟩ := hd
  unfold Reps at r
  exact ⟨r, q _ _ x h⟩
theorem sg_cons {g : TG} {gs : TGs} {dg : DTG} {dgs : DTGs} (h1 : SndG K g dg) (h2 : SndGs K gs dgs) : SndGs K (gCons g gs) (dgCons dg dgs) := fun H0 A0 A σ H ρ vs ds Q Qr x r hd q => by
  cases ds with
  | nil => exact hd.elim
  | cons d ds =>
    unfold Reps at r
    obtain ⟨v, r', rfl, r1, r2⟩ := r
    exact ⟨v, r', rfl, h1 H0 A0 A σ H ρ v d _ _ x r1 hd fun ρ' σ' x' hq => h2 H0 A0 A σ' H ρ' r' ds Q Qr x' r2 hq q⟩
def dgTup (n : Nat) (g : DTGs) : DTG := fun d ρ Q => match d with
  | .tup ds => ds.length = n ∧ g ds ρ Q
  | _ => False
theorem sg_tup {n : Nat} {gs : TGs} {dgs : DTGs} (h : SndGs K gs dgs) : SndG K (gTup K n gs) (dgTup n dgs) := fun H0 A0 A σ H ρ v d Q Qr x r hd q => by
  cases d with
  | tup ds =>
    unfold Rep at r
    obtain ⟨a, xs, rfl, s, r⟩ := r
    exact ⟨a, xs, rfl, (le_hide (A := A)).sqt s, by rw [← r.length]; exact hd.1, h H0 A0 A σ H ρ xs ds Q Qr x r hd.2 q⟩
  | _ => exact hd.elim
/-- target = value, any target -/
def dAsg (t : DTE) (g : DTG) : DTS := fun DD ρ => t ρ (fun d ρ' => g d ρ' DD.nx) DD.ex
theorem ss_asg {te : TE} {t : DTE} {g : TG} {dg : DTG} (h : SndE K W te t) (hg : SndG K g dg) : SndS K W fr (tAsg te g) (dAsg t dg) := fun H0 A0 A σ H ρ DD D x ht l =>
  h H0 A0 A σ H ρ _ _ _ x ht (fun d ρ' v H' A' af r hq => hg H0 A0 A' σ H' ρ' v d _ _ af.ok r hq fun ρ'' σ' x' hq' => l.nx _ _ H' A' ⟨x', af.go⟩ hq') fun c ρ' H' A' af he => l.ex c ρ' σ H' A' af.aft he
/-- a, b = e, f -/
def dPar (i j : Nat) (t : DTA) : DTS := fun DD ρ => t ρ (fun ds ρ' => match ds with
  | [d, e] => DD.nx ((ρ'.set i (.sh d)).set j (.sh e))
  | _ => False) DD.ex
theorem ss_par {i j : Nat} {te : TA} {t : DTA} (h : SndA K W te t) : SndS K W fr (tPar i j te) (dPar i j t) := fun H0 A0 A σ H ρ DD D x ht l =>
  h H0 A0 A σ H ρ _ _ _ x ht (fun ds ρ' vs H' A' af r hq => by
    match ds, hq, r with
    | [d, e], hq, r =>
      unfold Reps at r
      obtain ⟨v, r', rfl, r1, r2⟩ := r
      unfold Reps at r2
      obtain ⟨w, r'', rfl, r2, r3⟩ := r2
      unfold Reps at r3
      subst r3
      exact ⟨v, w, rfl, l.nx _ _ H' A' ⟨(af.ok.setSh r1).setSh r2, af.go⟩ hq⟩) fun c ρ' H' A' af he => l.ex c ρ' σ H' A' af.aft he
/-- name op= e -/
def dAug (i : Nat) (op : Op2) (t : DTE) : DTS := fun DD ρ => match nth ρ i with
  | .sh d => t ρ (fun e ρ' => op d e fun c => DD.nx (ρ'.set i (.sh c))) DD.ex
  | _ => False
theorem ss_aug {i : Nat} {r : R2} {op : Op2} {te : TE} {t : DTE} (h : SndB K W te t) (hr : OpS K r op) : SndS K W fr (tAug i te r) (dAug i op t) := fun H0 A0 A σ H ρ DD D x ht l => by
  unfold dAug at ht
  cases hn : nth ρ i with
  | em => rw [hn] at ht; exact ht.elim
  | ow d => rw [hn] at ht; exact ht.elim
  | sh d =>
    rw [hn] at ht
    obtain ⟨v, e1, r1⟩ := x.sh i d (nth_sh hn)
    exact ⟨v, e1, h H0 A0 A σ H ρ _ _ _ x ht (fun e ρ' w H' A' af r2 hq => hr A' H' v w d e _ _ (fun p hp => af.ok.noA hp) ((r1.mono af.go.le).b) r2 hq
      fun c z H3 g r3 hc => l.nx _ _ H3 A' ⟨(af.more g).ok.setSh r3, (af.more g).go⟩ hc) fun c ρ' H' A' af he => l.ex c ρ' σ H' A' af.aft he⟩
/-- xs[k] = e, xs an owned list -/
def dSetIx (i : Nat) (t k : DTE) : DTS := fun DD ρ => t ρ (fun d ρ1 => match nth ρ1 i with
  | .ow _ => k ρ1 (fun c ρ2 => match c, nth ρ2 i with
    | .int z, .ow (.lst ds) => ∃ j, ixN ds.length z = some j ∧ DD.nx (ρ2.set i (.ow (.lst (ds.set j d))))
    | _, _ => False) DD.ex
  | _ => False) DD.ex
theorem ss_setIx {i : Nat} {te tk : TE} {t k : DTE} (h : SndE K W te t) (hk : SndB K W tk k) : SndS K W fr (tAsg te (gSub (tVar i) tk rSetL)) (dSetIx i t k) := fun H0 A0 A σ H ρ DD D x ht l =>
  h H0 A0 A σ H ρ _ _ _ x ht (fun d ρ1 v H1 A1 af r hq => by
    cases hn : nth ρ1 i with
    | em => rw [hn] at hq; exact hq.elim
    | sh d => rw [hn] at hq; exact hq.elim
    | ow d0 =>
      rw [hn] at hq
      obtain ⟨a0, e0, m0, n0, r0⟩ := af.ok.ow i d0 (nth_ow hn)
      refine ⟨_, e0, hk H0 A0 A1 σ H1 ρ1 _ _ _ af.ok hq (fun c ρ2 w H2 A2 af2 r2 hq2 => ?_) fun c ρ' H' A' af' he => l.ex c ρ' σ H' A' (af.trans af').aft he⟩
      split at hq2
      · rename_i z ds hn2
        obtain ⟨j, hj, hq2⟩ := hq2
        obtain ⟨a, e1, m, n, xs, hx, rx⟩ := af2.ok.ow i _ (nth_ow hn2)
        rw [e0] at e1
        cases e1
        cases repb_int r2
        refine ⟨a0, xs, z, j, rfl, rfl, hx, by rw [← rx.length]; exact hj, ?_⟩
        have ro : Own K A2 (upd H2 a0 (.lst (xs.set j v))) (.lst (ds.set j d)) a0 := by
          refine .mkL upd_same ?_
          rw [hide_upd m]
          exact rx.set j (r.mono af2.go.le)
        obtain ⟨x', g'⟩ := af2.ok.put (nth_ow hn2) e0 ro
        exact l.nx _ _ _ A2 ⟨x', (af.trans af2).go.trans g'⟩ hq2
      · exact hq2.elim) fun c ρ' H' A' af he => l.ex c ρ' σ H' A' af.aft he
/-- xs.append(e), xs an owned list -/
def dApp (i : Nat) (t : DTE) : DTS := fun DD ρ => match nth ρ i with
  | .ow (.lst _) => t ρ (fun d ρ1 => match nth ρ1 i with
    | .ow (.lst ds) => ds.length < sizeLine ∧ DD.nx (ρ1.set i (.ow (.lst (ds ++ [d]))))
    | _ => False) DD.ex
  | _ => False
theorem ss_app {i : Nat} {te : TE} {t : DTE} (h : SndE K W te t) : SndS K W fr (tDrop (tBM K "list" rAppend (tVar i) (tCons te tNil))) (dApp i t) := fun H0 A0 A σ H ρ DD D x ht l => by
  unfold dApp at ht
  split at ht
  · rename_i ds0 hn
    obtain ⟨a0, e0, m0, n0, xs0, hx0, rx0⟩ := x.ow i _ (nth_ow hn)
    refine ⟨_, e0, .inl ⟨rfl, xs0, .of hx0⟩, h H0 A0 A σ H ρ _ _ _ x ht (fun d ρ1 v H1 A1 af r hq => ?_) fun c ρ' H' A' af he => l.ex c ρ' σ H' A' af.aft he⟩
    split at hq
    · rename_i ds hn1
      obtain ⟨a, e1, m, n, xs, hx, rx⟩ := af.ok.ow i _ (nth_ow hn1)
      rw [e0] at e1
      cases e1
      refine ⟨a0, xs, v, rfl, rfl, hx, by rw [← rx.length]; exact hq.1, ?_⟩
      have ro : Own K A1 (upd H1 a0 (.lst (xs ++ [v]))) (.lst (ds ++ [d])) a0 := by
        refine .mkL upd_same ?_
        rw [hide_upd m]
        exact rx.append (Reps.cons r Reps.nil)
      obtain ⟨x', g'⟩ := af.ok.put (nth_ow hn1) e0 ro
      exact l.nx _ _ _ A1 ⟨x', af.go.trans g'⟩ hq.2
    · exact hq.elim
  · exact ht.elim
/-- xs.clear() -/
def dClear (i : Nat) : DTS := fun DD ρ => match nth ρ i with
  | .ow (.lst _) => DD.nx (ρ.set i (.ow (.lst [])))
  | _ => False
theorem ss_clear {i : Nat} : SndS K W fr (tDrop (tBM0 K "list" rClear (tVar i))) (dClear i) := fun H0 A0 A σ H ρ DD D x ht l => by
  unfold dClear at ht
  split at ht
  · rename_i ds0 hn
    obtain ⟨a0, e0, m0, n0, xs0, hx0, rx0⟩ := x.ow i _ (nth_ow hn)
    have ro : Own K A (upd H a0 (.lst [])) (.lst []) a0 := .mkL upd_same Reps.nil
    obtain ⟨x', g'⟩ := x.put (nth_ow hn) e0 ro
    exact ⟨_, e0, .inl ⟨rfl, xs0, .of hx0⟩, a0, xs0, rfl, rfl, hx0, l.nx _ _ _ A ⟨x', g'⟩ ht⟩
  · exact ht.elim

/-! ### loops -/
def dWhile (c : DTT) (b : DTS) : DTS := fun DD ρ => ∃ Wd : Nat → DEnv → Prop, (∃ m, Wd m ρ) ∧ ∀ m ρ, Wd m ρ → c ρ (fun k ρ1 => if k = true then
    ∃ N : DEnv → Prop, (∀ ρ', N ρ' → ∃ m', m' < m ∧ Wd m' ρ') ∧ b { DD with nx := N, ct := N, bk := DD.nx } ρ1 else DD.nx ρ1) DD.ex
theorem ss_while {c : TT} {b : TS} {dc : DTT} {db : DTS} (hc : SndT K W c dc) (hb : SndS K W fr b db) : SndS K W fr (tWhile c b) (dWhile dc db) := fun H0 A0 A σ H ρ DD D x ht l => by
  obtain ⟨Wd, ⟨m0, w0⟩, turn⟩ := ht
  refine ⟨fun m σ' H' => ∃ A' ρ', Aft K H0 A0 A H A' σ' H' ρ' ∧ Wd m ρ', ⟨m0, A, ρ, x.aft, w0⟩, ?_⟩
  rintro m σ1 H1 ⟨A1, ρ1, af1, w1⟩
  refine hc H0 A0 A1 σ1 H1 ρ1 _ _ _ af1.ok (turn m ρ1 w1) (fun k ρ2 v H2 A2 af2 r hq => ?_) fun c ρ' H' A' af he => l.ex c ρ' σ1 H' A' (af1.trans af.aft) he
  subst r
  cases v with
  | true =>
    obtain ⟨N, hN, hq⟩ := hq
    have af := af1.trans af2.aft
    refine ⟨fun σ' H' => ∃ A' ρ', Aft K H0 A0 A H A' σ' H' ρ' ∧ N ρ', ?_, ?_⟩
    · rintro σ' H' ⟨A', ρ', af', n'⟩
      obtain ⟨m', hm, w'⟩ := hN ρ' n'
      exact ⟨m', hm, A', ρ', af', w'⟩
    · exact hb H0 A0 A2 σ1 H2 ρ2 _ _ af2.ok hq ⟨fun ρ' σ' H' A' af' h => ⟨A', ρ', af.trans af', h⟩, fun d ρ' σ' v H' A' af' => l.rt d ρ' σ' v H' A' (af.trans af'), fun ρ' σ' H' A' af' => l.nx ρ' σ' H' A' (af.trans af'),
        fun ρ' σ' H' A' af' h => ⟨A', ρ', af.trans af', h⟩, fun c ρ' σ' H' A' af' => l.ex c ρ' σ' H' A' (af.trans af')⟩
  | false => exact l.nx ρ2 σ1 H2 A2 (af1.trans af2.aft) hq
/-- what is walked: items ds, whatever the heap goes on to be -/
def ItOk (K : Frg) (B : List Addr) (G : Hp) (J : It) (ds : List D) : Prop := ∀ (B' : List Addr) (G' : Hp), Go (hide B G) (hide B' G') → (∀ p, G' p = none → p ∉ B') →
  J.stop ds.length G' ∧ ∀ i d, ds[i]? = some d → J.go i G' ∧ ∀ x H', J.yld i G' x H' → Go G' H' ∧ Rep K (hide B' H') d x
def SndI (K : Frg) (W : WX) (wi : TI) (t : DTA) : Prop :=
  ∀ (H0 : Hp) (A0 : Bs) (A : List Addr) (σ : L2.St) (H : Hp) (ρ : DEnv) (Q : List D → DEnv → Prop) (E : XD) (R : It → Hp → Prop), EnvOk K H0 A0 A σ H ρ → t ρ Q E →
    (∀ ds ρ' J H' A', AfE K H0 A0 A H A' σ H' ρ' → ItOk K A' H' J ds → Q ds ρ' → R J H') →
    (∀ c ρ' H' A', AfE K H0 A0 A H A' σ H' ρ' → E c ρ' → W (.ref (He.ga K c)) none σ H') → wi σ H R
def dFor (t : DTA) (g : DTG) (b : DTS) : DTS := fun DD ρ => t ρ (fun ds ρ1 => ∃ Pv : Nat → DEnv → Prop, Pv 0 ρ1 ∧ (∀ i d ρ, ds[i]? = some d → Pv i ρ → g d ρ fun ρ2 => b { DD with nx := Pv (i + 1), ct := Pv (i + 1), bk := DD.nx } ρ2) ∧
  ∀ ρ, Pv ds.length ρ → DD.nx ρ) DD.ex
theorem ss_for {wi : TI} {t : DTA} {g : TG} {dg : DTG} {b : TS} {db : DTS} (hi : SndI K W wi t) (hg : SndG K g dg) (hb : SndS K W fr b db) : SndS K W fr (tFor wi g b) (dFor t dg db) := fun H0 A0 A σ H ρ DD D x ht l => by
  refine hi H0 A0 A σ H ρ _ _ _ x ht (fun ds ρ1 J H1 A1 af1 it hq => ?_) fun c ρ' H' A' af he => l.ex c ρ' σ H' A' af.aft he
  obtain ⟨Pv, p0, step, done⟩ := hq
  refine ⟨fun i m σ' H' => ∃ A' ρ', Aft K H0 A0 A1 H1 A' σ' H' ρ' ∧ m = ds.length - i ∧ i ≤ ds.length ∧ Pv i ρ', ⟨_, A1, ρ1, af1.ok.aft, rfl, Nat.zero_le _, p0⟩, ?_⟩
  rintro i m σ2 H2 ⟨A2, ρ2, af2, rfl, hle, p2⟩
  obtain ⟨st, go⟩ := it A2 H2 af2.go fun p hp => af2.ok.noA hp
  by_cases hlt : i < ds.length
  · obtain ⟨g1, g2⟩ := go i ds[i] (by simp [hlt])
    refine .inr ⟨g1, fun σ' H' => ∃ A' ρ', Aft K H0 A0 A1 H1 A' σ' H' ρ' ∧ Pv (i + 1) ρ', ?_, fun y H3 hy => ?_⟩
    · rintro σ' H' ⟨A', ρ', af', p'⟩
      exact ⟨ds.length - (i + 1), by omega, A', ρ', af', rfl, hlt, p'⟩
    · obtain ⟨gg, rr⟩ := g2 y H3 hy
      have x3 := af2.ok.go gg
      have af3 : Aft K H0 A0 A1 H1 A2 σ2 H3 ρ2 := ⟨x3, af2.go.trans gg.hide⟩
      refine hg H0 A0 A2 σ2 H3 ρ2 y ds[i] _ _ x3 rr (step i ds[i] ρ2 (by simp [hlt]) p2) fun ρ4 σ4 x4 hq4 => ?_
      have af4 : Aft K H0 A0 A1 H1 A2 σ4 H3 ρ4 := ⟨x4, af3.go⟩
      exact hb H0 A0 A2 σ4 H3 ρ4 _ _ x4 hq4 ⟨fun ρ' σ' H' A' af' h => ⟨A', ρ', af4.trans af', h⟩, fun d ρ' σ' v H' A' af' => l.rt d ρ' σ' v H' A' ⟨af'.ok, af1.go.trans (af4.trans af').go⟩,
        fun ρ' σ' H' A' af' => l.nx ρ' σ' H' A' ⟨af'.ok, af1.go.trans (af4.trans af').go⟩, fun ρ' σ' H' A' af' h => ⟨A', ρ', af4.trans af', h⟩, fun c ρ' σ' H' A' af' => l.ex c ρ' σ' H' A' ⟨af'.ok, af1.go.trans (af4.trans af').go⟩⟩
  · have e : i = ds.length := by omega
    subst e
    exact .inl ⟨st, l.nx ρ2 σ2 H2 A2 ⟨af2.ok, af1.go.trans af2.go⟩ (done ρ2 p2)⟩
/-- over a list -/
def dItL (t : DTE) : DTA := fun ρ Q E => t ρ (fun d ρ' => match d with
  | .lst ds => Q ds ρ'
  | .fz ds => Q ds ρ'
  | _ => False) E
theorem si_list {te : TE} {t : DTE} (h : SndE K W te t) : SndI K W (iList K te) (dItL t) := fun H0 A0 A σ H ρ Q E R x ht q e =>
  h H0 A0 A σ H ρ _ E _ x ht (fun d ρ1 v1 H1 A1 af1 r1 hq => by
    have main : ∀ (a : Addr) (xs : List V) (ds : List D), SqL K (hide A1 H1) a xs → Reps K (hide A1 H1) ds xs → ItOk K A1 H1 (Itl K a) ds := fun a xs ds s r B' G' g nb => by
      have s' : SqL K G' a xs := ((g.trans go_hide).le).seq s
      refine ⟨⟨xs, s', by rw [r.length]; exact Nat.le_refl _⟩, fun i d hd => ?_⟩
      obtain ⟨v, hv, rv⟩ := r.get hd
      refine ⟨⟨xs, v, s', hv⟩, fun y H' hy => ?_⟩
      obtain ⟨rfl, hy⟩ := hy
      have := hy xs s'
      rw [hv] at this
      cases this
      exact ⟨Go.refl _, rv.mono g.le⟩
    split at hq
    · unfold Rep at r1
      obtain ⟨a, xs, rfl, s, r⟩ := r1
      exact ⟨a, rfl, ⟨xs, .of (le_hide.lst s)⟩, q _ ρ1 _ H1 A1 af1 (main a xs _ (.of s) r) hq⟩
    · unfold Rep at r1
      obtain ⟨a, xs, rfl, s, r⟩ := r1
      exact ⟨a, rfl, ⟨xs, le_hide.seq s⟩, q _ ρ1 _ H1 A1 af1 (main a xs _ s r) hq⟩
    · exact hq.elim) e
/-- over a tuple -/
def dItT (t : DTE) : DTA := fun ρ Q E => t ρ (fun d ρ' => match d with
  | .tup ds => Q ds ρ'
  | _ => False) E
theorem si_tup {te : TE} {t : DTE} (h : SndE K W te t) : SndI K W (iTup K te) (dItT t) := fun H0 A0 A σ H ρ Q E R x ht q e =>
  h H0 A0 A σ H ρ _ E _ x ht (fun d ρ1 v1 H1 A1 af1 r1 hq => by
    split at hq
    · rename_i ds
      unfold Rep at r1
      obtain ⟨a, xs, rfl, s, r⟩ := r1
      refine ⟨a, rfl, ⟨xs, le_hide.sqt s⟩, q _ ρ1 _ H1 A1 af1 (fun B' G' g nb => ?_) hq⟩
      have s' : SqT K G' a xs := ((g.trans go_hide).le).sqt s
      refine ⟨⟨xs, s', by rw [r.length]; exact Nat.le_refl _⟩, fun i d hd => ?_⟩
      obtain ⟨v, hv, rv⟩ := r.get hd
      refine ⟨⟨xs, v, s', hv⟩, fun y H' hy => ?_⟩
      obtain ⟨rfl, hy⟩ := hy
      have := hy xs s'
      rw [hv] at this
      cases this
      exact ⟨Go.refl _, rv.mono g.le⟩
    · exact hq.elim) e
/-- ranges -/
def rangeD (lo : Int) (n : Nat) : List D := (List.range n).map fun (i : Nat) => D.int (lo + (i : Int))
theorem rangeD_len {lo : Int} {n : Nat} : (rangeD lo n).length = n := by unfold rangeD; simp
theorem rangeD_get {lo : Int} {n i : Nat} {d : D} (h : (rangeD lo n)[i]? = some d) : i < n ∧ d = .int (lo + (i : Int)) := by
  unfold rangeD at h
  rw [List.getElem?_map] at h
  cases e : (List.range n)[i]? with
  | none => rw [e] at h; cases h
  | some j =>
    rw [e] at h
    obtain ⟨h1, h2⟩ := List.getElem?_eq_some_iff.mp e
    have : j = i := by simpa using h2.symm
    subst this
    have h1' : j < n := by simpa using h1
    exact ⟨h1', (Option.some.inj h).symm⟩
def dItR1 (t : DTA) : DTA := fun ρ Q E => t ρ (fun ds ρ' => match ds with
  | [.int j] => -(2 ^ 62) ≤ j ∧ j < 2 ^ 62 ∧ Q (rangeD 0 j.toNat) ρ'
  | _ => False) E
def dItR2 (t : DTA) : DTA := fun ρ Q E => t ρ (fun ds ρ' => match ds with
  | [.int i, .int j] => (-(2 ^ 62) ≤ i ∧ i < 2 ^ 62 ∧ -(2 ^ 62) ≤ j ∧ j < 2 ^ 62) ∧ Q (rangeD i (j - i).toNat) ρ'
  | _ => False) E
theorem itr_ok {B : List Addr} {G : Hp} {lo : Int} {n : Nat} : ItOk K B G (Itr lo n) (rangeD lo n) := fun B' G' g nb => by
  refine ⟨by rw [rangeD_len]; exact Nat.le_refl _, fun i d hd => ?_⟩
  obtain ⟨h1, rfl⟩ := rangeD_get hd
  refine ⟨h1, fun y H' hy => ?_⟩
  obtain ⟨rfl, rfl⟩ := hy
  exact ⟨Go.refl _, rep_int⟩
theorem si_range1 {ta : TA} {t : DTA} (h : SndAB K W ta t) : SndI K W (iRng1 ta) (dItR1 t) := fun H0 A0 A σ H ρ Q E R x ht q e =>
  h H0 A0 A σ H ρ _ E _ x ht (fun ds ρ1 vs H1 A1 af1 r1 hq => by
    split at hq
    · obtain ⟨v, rfl, r⟩ := bs1 r1
      cases repb_int r
      exact ⟨_, rfl, hq.1, hq.2.1, q _ ρ1 _ H1 A1 af1 itr_ok hq.2.2⟩
    · exact hq.elim) e
theorem si_range2 {ta : TA} {t : DTA} (h : SndAB K W ta t) : SndI K W (iRng2 ta) (dItR2 t) := fun H0 A0 A σ H ρ Q E R x ht q e =>
  h H0 A0 A σ H ρ _ E _ x ht (fun ds ρ1 vs H1 A1 af1 r1 hq => by
    split at hq
    · obtain ⟨v, w, rfl, r, r'⟩ := bs2 r1
      cases repb_int r; cases repb_int r'
      exact ⟨_, _, rfl, hq.1, q _ ρ1 _ H1 A1 af1 itr_ok hq.2⟩
    · exact hq.elim) e
/-- signs of a text -/
def signsD (x : Str) : List D := x.cps.toList.map fun c => D.str ⟨#[c]⟩
def dItS (t : DTE) : DTA := fun ρ Q E => t ρ (fun d ρ' => match d with
  | .str x => Q (signsD x) ρ'
  | _ => False) E
theorem si_str {te : TE} {t : DTE} (h : SndE K W te t) : SndI K W (iStr te) (dItS t) := fun H0 A0 A σ H ρ Q E R x ht q e =>
  h H0 A0 A σ H ρ _ E _ x ht (fun d ρ1 v1 H1 A1 af1 r1 hq => by
    split at hq
    · rename_i z
      unfold Rep at r1
      subst r1
      refine ⟨z, rfl, q _ ρ1 _ H1 A1 af1 (fun B' G' g nb => ?_) hq⟩
      refine ⟨by unfold signsD; simp [Its], fun i d hd => ?_⟩
      unfold signsD at hd
      rw [List.getElem?_map] at hd
      cases e1 : z.cps.toList[i]? with
      | none => rw [e1] at hd; cases hd
      | some c =>
        rw [e1] at hd
        cases hd
        have hi : i < z.cps.size := by
          have := (List.getElem?_eq_some_iff.mp e1).1
          simpa using this
        refine ⟨hi, fun y H' hy => ?_⟩
        obtain ⟨rfl, c', hc, rfl⟩ := hy
        have : c' = c := by
          have e2 : z.cps[i]? = some c := by simpa using e1
          rw [e2] at hc
          exact (Option.some.inj hc).symm
        subst this
        exact ⟨Go.refl _, rep_str⟩
    · exact hq.elim) e
/-- enumerate(xs) -/
def enumD (ds : List D) : List D := (List.range ds.length).map fun (i : Nat) => D.tup [.int (i : Int), ds.getD i .non]
theorem enumD_len {ds : List D} : (enumD ds).length = ds.length := by unfold enumD; simp
theorem enumD_get {ds : List D} {i : Nat} {d : D} (h : (enumD ds)[i]? = some d) : ∃ c, ds[i]? = some c ∧ d = .tup [.int (i : Int), c] := by
  unfold enumD at h
  rw [List.getElem?_map] at h
  cases e : (List.range ds.length)[i]? with
  | none => rw [e] at h; cases h
  | some j =>
    rw [e] at h
    obtain ⟨h1, h2⟩ := List.getElem?_eq_some_iff.mp e
    have : j = i := by simpa using h2.symm
    subst this
    have h1' : j < ds.length := by simpa using h1
    refine ⟨ds[j], by simp [h1'], ?_⟩
    have := (Option.some.inj h).symm
    rw [this]
    simp [List.getD, h1']
def dItE (t : DTA) : DTA := fun ρ Q E => t ρ (fun ds ρ' => match ds with
  | [.lst ds] => Q (enumD ds) ρ'
  | [.fz ds] => Q (enumD ds) ρ'
  | _ => False) E
theorem si_enum {ta : TA} {t : DTA} (h : SndA K W ta t) : SndI K W (iEnum K ta) (dItE t) := fun H0 A0 A σ H ρ Q E R x ht q e =>
  h H0 A0 A σ H ρ _ E _ x ht (fun ds ρ1 vs H1 A1 af1 r1 hq => by
    have main : ∀ (a : Addr) (xs : List V) (ds : List D), SqL K (hide A1 H1) a xs → Reps K (hide A1 H1) ds xs → ItOk K A1 H1 (Ite K a) (enumD ds) := fun a xs ds s r B' G' g nb => by
      have s' : SqL K G' a xs := ((g.trans go_hide).le).seq s
      refine ⟨⟨xs, s', by rw [enumD_len, r.length]; exact Nat.le_refl _⟩, fun i d hd => ?_⟩
      obtain ⟨c, hc, rfl⟩ := enumD_get hd
      obtain ⟨v, hv, rv⟩ := r.get hc
      refine ⟨⟨xs, v, s', hv⟩, fun y H' hy => ?_⟩
      obtain ⟨T, w, rfl, hT, rfl, hy⟩ := hy
      have := hy xs s'
      rw [hv] at this
      cases this
      exact ⟨go_new hT, rep_newT hT (nb T hT) (Reps.cons rep_int (Reps.cons (rv.mono g.le) Reps.nil))⟩
    split at hq
    · unfold Reps at r1
      obtain ⟨v, r', rfl, r1, r2⟩ := r1
      unfold Reps at r2
      subst r2
      unfold Rep at r1
      obtain ⟨a, xs, rfl, s, r⟩ := r1
      exact ⟨a, xs, rfl, .of (le_hide.lst s), q _ ρ1 _ H1 A1 af1 (main a xs _ (.of s) r) hq⟩
    · unfold Reps at r1
      obtain ⟨v, r', rfl, r1, r2⟩ := r1
      unfold Reps at r2
      subst r2
      unfold Rep at r1
      obtain ⟨a, xs, rfl, s, r⟩ := r1
      exact ⟨a, xs, rfl, le_hide.seq s, q _ ρ1 _ H1 A1 af1 (main a xs _ s r) hq⟩
    · exact hq.elim) e
/-- zip(xs, ys) -/
def zipD (ds es : List D) : List D := (ds.zip es).map fun p => D.tup [p.1, p.2]
theorem zipD_get {ds es : List D} {i : Nat} {d : D} (h : (zipD ds es)[i]? = some d) : ∃ c c', ds[i]? = some c ∧ es[i]? = some c' ∧ d = .tup [c, c'] := by
  unfold zipD at h
  rw [List.getElem?_map] at h
  cases e : (ds.zip es)[i]? with
  | none => rw [e] at h; cases h
  | some p =>
    rw [e] at h
    obtain ⟨h1, h2⟩ := List.getElem?_zip_eq_some.mp e
    exact ⟨p.1, p.2, h1, h2, (Option.some.inj h).symm⟩
theorem zipD_len {ds es : List D} : (zipD ds es).length = min ds.length es.length := by unfold zipD; simp
def dItZ (t : DTA) : DTA := fun ρ Q E => t ρ (fun ds ρ' => match ds with
  | [.lst ds, .lst es] => Q (zipD ds es) ρ'
  | [.fz ds, .fz es] => Q (zipD ds es) ρ'
  | [.fz ds, .lst es] => Q (zipD ds es) ρ'
  | [.lst ds, .fz es] => Q (zipD ds es) ρ'
  | [.tup ds, .tup es] => Q (zipD ds es) ρ'
  | _ => False) E
theorem reps2 {K : Frg} {H : Hp} {d e : D} {vs : List V} (h : Reps K H [d, e] vs) : ∃ v w, vs = [v, w] ∧ Rep K H d v ∧ Rep K H e w := by
  unfold Reps at h
  obtain ⟨v, r', rfl, r1, r2⟩ := h
  unfold Reps at r2
  obtain ⟨w, r'', rfl, r2, r3⟩ := r2
  unfold Reps at r3
  subst r3
  exact ⟨v, w, rfl, r1, r2⟩
theorem zip_ok {B B' : List Addr} {G G' : Hp} {xs ys : List V} {ds es : List D} (r : Reps K (hide B G) ds xs) (r' : Reps K (hide B G) es ys) (g : Go (hide B G) (hide B' G')) (nb : ∀ p, G' p = none → p ∉ B') {i : Nat} {d : D} (hd : (zipD ds es)[i]? = some d) :
    ∃ x y, xs[i]? = some x ∧ ys[i]? = some y ∧ ∀ T, G' T = none → Go G' (upd G' T (.tup [x, y])) ∧ Rep K (hide B' (upd G' T (.tup [x, y]))) d (.ref T) := by
  obtain ⟨c, c', h1, h2, rfl⟩ := zipD_get hd
  obtain ⟨x, hx, rx⟩ := r.get h1
  obtain ⟨y, hy, ry⟩ := r'.get h2
  exact ⟨x, y, hx, hy, fun T hT => ⟨go_new hT, rep_newT hT (nb T hT) (Reps.cons (rx.mono g.le) (Reps.cons (ry.mono g.le) Reps.nil))⟩⟩
theorem si_zip {ta : TA} {t : DTA} (h : SndA K W ta t) : SndI K W (RZ.iZipA K ta) (dItZ t) := fun H0 A0 A σ H ρ Q E R x ht q e =>
  h H0 A0 A σ H ρ _ E _ x ht (fun ds ρ1 vs H1 A1 af1 r1 hq => by
    have main : ∀ (a b : Addr) (xs ys : List V) (ds es : List D), SqL K (hide A1 H1) a xs → SqL K (hide A1 H1) b ys → Reps K (hide A1 H1) ds xs → Reps K (hide A1 H1) es ys → ItOk K A1 H1 (Itz K a b) (zipD ds es) := fun a b xs ys ds es s s2 r r2 B' G' g nb => by
      have s' : SqL K G' a xs := ((g.trans go_hide).le).seq s
      have s2' : SqL K G' b ys := ((g.trans go_hide).le).seq s2
      refine ⟨⟨xs, ys, s', s2', by rw [zipD_len, r.length, r2.length]; omega⟩, fun i d hd => ?_⟩
      obtain ⟨x', y', hx, hy, fin⟩ := zip_ok r r2 g nb hd
      refine ⟨⟨xs, ys, x', y', s', s2', hx, hy⟩, fun y H' hz => ?_⟩
      obtain ⟨T, u, v, rfl, hT, rfl, h1, h2⟩ := hz
      have e1 := h1 xs s'
      have e2 := h2 ys s2'
      rw [hx] at e1
      rw [hy] at e2
      cases e1; cases e2
      exact fin T hT
    have mainT : ∀ (a b : Addr) (xs ys : List V) (ds es : List D), SqT K (hide A1 H1) a xs → SqT K (hide A1 H1) b ys → Reps K (hide A1 H1) ds xs → Reps K (hide A1 H1) es ys → ItOk K A1 H1 (RZ.ItzT K a b) (zipD ds es) := fun a b xs ys ds es s s2 r r2 B' G' g nb => by
      have s' : SqT K G' a xs := ((g.trans go_hide).le).sqt s
      have s2' : SqT K G' b ys := ((g.trans go_hide).le).sqt s2
      refine ⟨⟨xs, ys, s', s2', by rw [zipD_len, r.length, r2.length]; omega⟩, fun i d hd => ?_⟩
      obtain ⟨x', y', hx, hy, fin⟩ := zip_ok r r2 g nb hd
      refine ⟨⟨xs, ys, x', y', s', s2', hx, hy⟩, fun y H' hz => ?_⟩
      obtain ⟨T, u, v, rfl, hT, rfl, h1, h2⟩ := hz
      have e1 := h1 xs s'
      have e2 := h2 ys s2'
      rw [hx] at e1
      rw [hy] at e2
      cases e1; cases e2
      exact fin T hT
    split at hq
    all_goals first
      | exact hq.elim
      | (obtain ⟨v, w, rfl, r1, r2⟩ := reps2 r1
         unfold Rep at r1 r2
         obtain ⟨a, xs, rfl, s, r⟩ := r1
         obtain ⟨b, ys, rfl, s2, r'⟩ := r2
         first
           | exact ⟨a, b, xs, ys, rfl, .inl ⟨.of (le_hide.lst s), .of (le_hide.lst s2), q _ ρ1 _ H1 A1 af1 (main a b xs ys _ _ (.of s) (.of s2) r r') hq⟩⟩
           | exact ⟨a, b, xs, ys, rfl, .inl ⟨le_hide.seq s, le_hide.seq s2, q _ ρ1 _ H1 A1 af1 (main a b xs ys _ _ s s2 r r') hq⟩⟩
           | exact ⟨a, b, xs, ys, rfl, .inl ⟨le_hide.seq s, .of (le_hide.lst s2), q _ ρ1 _ H1 A1 af1 (main a b xs ys _ _ s (.of s2) r r') hq⟩⟩
           | exact ⟨a, b, xs, ys, rfl, .inl ⟨.of (le_hide.lst s), le_hide.seq s2, q _ ρ1 _ H1 A1 af1 (main a b xs ys _ _ (.of s) s2 r r') hq⟩⟩
           | exact ⟨a, b, xs, ys, rfl, .inr ⟨le_hide.sqt s, le_hide.sqt s2, q _ ρ1 _ H1 A1 af1 (mainT a b xs ys _ _ s s2 r r') hq⟩⟩)) e
end
end DL

end

section
/-! The D layer, 6: statements as judgements, defs and their promises, methods, instances. -/
namespace DL
open PySem PySem.Spec PyProof.Rows L2
section
variable {X : Cx} {W : WX} {fr : Bool} {st : Stmt} {rest : List Stmt} {ts us : TS} {t u : DTS} {e : Expr} {te : TE} {d : DTE} {pos : Pos}
theorem dss_nil : DSs X W fr [] tNext dNext := ⟨pss_nil, ss_next⟩
theorem dss_cons (h1 : DS X W fr st ts t) (h2 : DSs X W fr rest us u) : DSs X W fr (st :: rest) (tSeq ts us) (dSeq t u) := ⟨pss_cons h1.ps h2.ps, ss_seq h1.sn h2.sn⟩
theorem dss_one (h1 : DS X W fr st ts t) : DSs X W fr [st] ts t := ⟨pss_one h1.ps, h1.sn⟩
theorem ds_pass : DS X W fr (.Pass pos) tNext dNext := ⟨ps_pass, ss_next⟩
theorem ds_break : DS X W fr (.Break pos) tBreak dBreak := ⟨ps_break, ss_break⟩
theorem ds_continue : DS X W fr (.Continue pos) tCont dCont := ⟨ps_continue, ss_cont⟩
theorem ds_never : DS X W fr st tNever dNever := ⟨ps_never, ss_never⟩
theorem dss_never {sts : List Stmt} : DSs X W fr sts tNever dNever := ⟨pss_never, ss_never⟩
theorem ds_expr (h : DB X W e te d) (hs : swapsWith e none pos.line X.env = pure false := by rfl) : DS X W fr (.Expr e pos) (tDrop te) (dDrop d) := ⟨ps_expr h.pe hs, ss_drop h.sn⟩
theorem ds_ret (h : DE X W e te d) : DS X W false (.Return (some e) pos) (tRet te) (dRet d) := ⟨ps_ret h.pe, ss_ret h.sn⟩
theorem ds_retF (h : DF X W e te d) : DS X W true (.Return (some e) pos) (tRet te) (dRet d) := ⟨ps_ret h.pe, ss_retF h.sn⟩
theorem ds_retN : DS X W false (.Return none pos) tRetN dRetN := ⟨ps_retN, ss_retN⟩
theorem ds_if {c : Expr} {tc : TT} {dc : DTT} {a b : List Stmt} (hc : DT X W c tc dc) (ha : DSs X W fr a ts t) (hb : DSs X W fr b us u) : DS X W fr (.If c a b pos) (tIfS tc ts us) (dIfS dc t u) := ⟨ps_if hc.pe ha.ps hb.ps, ss_if hc.sn ha.sn hb.sn⟩
theorem ds_set {i : Nat} {x : Str} {pos' : Pos} (hN : X.N.Nodup) (h : DE X W e te d) (hi : X.N[i]? = some x := by rfl) (hx : Loc X.env.scope x := by first | exact Or.inl rfl | exact Or.inr rfl) (hs : swapsWith e (some (.Name x pos')) pos.line X.env = pure false := by rfl)
    (hf : X.fn x = true ∨ X.env.scope.names.lookup x = some .local := by first | exact .inl rfl | exact .inr rfl | assumption) : DS X W fr (.Assign [.Name x pos'] e pos) (tAsg te (gName i)) (dSet i d) := ⟨ps_set hN hi hx h.pe hs hf, ss_set h.sn⟩
theorem ds_own {i : Nat} {x : Str} {pos' : Pos} (hN : X.N.Nodup) (h : DF X W e te d) (hi : X.N[i]? = some x := by rfl) (hx : Loc X.env.scope x := by first | exact Or.inl rfl | exact Or.inr rfl) (hs : swapsWith e (some (.Name x pos')) pos.line X.env = pure false := by rfl)
    (hf : X.fn x = true ∨ X.env.scope.names.lookup x = some .local := by first | exact .inl rfl | exact .inr rfl | assumption) (hi0 : i ≠ 0 := by decide) : DS X W fr (.Assign [.Name x pos'] e pos) (tAsg te (gName i)) (dOwn i d) := ⟨ps_set hN hi hx h.pe hs hf, ss_own h.sn hi0⟩
/-- targets -/
structure DGt (X : Cx) (target : Expr) (g : TG) (dg : DTG) : Prop where
  pg : PG X target g
  sn : SndG X.K g dg
structure DGts (X : Cx) (targets : List Expr) (g : TGs) (dg : DTGs) : Prop where
  pg : PGs X targets g
  sn : SndGs X.K g dg
theorem dg_name {i : Nat} {x : Str} (hN : X.N.Nodup) (hi : X.N[i]? = some x := by rfl) (hx : Loc X.env.scope x := by first | exact Or.inl rfl | exact Or.inr rfl) (hf : X.fn x = true ∨ X.env.scope.names.lookup x = some .local := by first | exact .inl rfl | exact .inr rfl | assumption) :
    DGt X (.Name x pos) (gName i) (dgName i) := ⟨pg_name hN hi hx hf, sg_name⟩
theorem dgs_nil : DGts X [] gNil dgNil := ⟨pgs_nil, sg_nil⟩
theorem dgs_cons {es : List Expr} {g : TG} {gs : TGs} {dg : DTG} {dgs : DTGs} (h1 : DGt X e g dg) (h2 : DGts X es gs dgs) (hs : (assignEach (e :: es) X.env).map (·.2) = assign e X.env :: (assignEach es X.env).map (·.2) := by rfl) :
    DGts X (e :: es) (gCons g gs) (dgCons dg dgs) := ⟨pgs_cons h1.pg h2.pg hs, sg_cons h1.sn h2.sn⟩
theorem dg_tup {es : List Expr} {k : Nat} {gs : TGs} {dgs : DTGs} {n : Nat} (hc : X.calm = true) (h : DGts X es gs dgs)
    (hn : (assignEach es X.env).length = n := by rfl) (hst : (assignEach es X.env).findIdx? (·.1) = none := by rfl) : DGt X (.Tuple es k pos) (gTup X.K n gs) (dgTup n dgs) := ⟨pg_tup hc h.pg hn hst, sg_tup h.sn⟩
theorem ds_asg {tg : Expr} {g : TG} {dg : DTG} (h : DE X W e te d) (hg : DGt X tg g dg) (hs : swapsWithSole [tg] e pos.line X.env = pure false := by rfl) (hw : swappedStores [tg] e X.env = pure none := by rfl)
    (h1 : (assignEach [tg] X.env).map (·.2) = [assign tg X.env] := by rfl) : DS X W fr (.Assign [tg] e pos) (tAsg te g) (dAsg d dg) := ⟨ps_asg h.pe hg.pg hs hw h1, ss_asg h.sn hg.sn⟩
theorem ds_par {i j : Nat} {x y : Str} {a b : Expr} {ta : TA} {da : DTA} {px py pt : Pos} {kt k2 pt2} (hc : X.calm = true) (hN : X.N.Nodup) (ha : DA X W [a, b] ta da) (hi : X.N[i]? = some x := by rfl) (hj : X.N[j]? = some y := by rfl) (hij : i ≠ j := by decide)
    (hx : X.env.scope.names.lookup x = some .local := by rfl) (hy : X.env.scope.names.lookup y = some .local := by rfl)
    (hw : swappedStores [.Tuple [.Name x px, .Name y py] kt pt] (.Tuple [a, b] k2 pt2) X.env = pure (some [x, y]) := by rfl)
    (hs : swapsWithSole [.Tuple [.Name x px, .Name y py] kt pt] (.Tuple [a, b] k2 pt2) pos.line X.env = pure false := by rfl) :
    DS X W fr (.Assign [.Tuple [.Name x px, .Name y py] kt pt] (.Tuple [a, b] k2 pt2) pos) (tPar i j ta) (dPar i j da) := ⟨ps_par hc hN hi hj hij hx hy ha.pe hw hs, ss_par ha.sn⟩
theorem ds_aug {i : Nat} {x : Str} {op : Operator} {r : R2} {o : Op2} {pos' : Pos} (hN : X.N.Nodup) (ho : OpR X (inplaceOp op) r) (hs : OpS X.K r o) (h : DB X W e te d) (hi : X.N[i]? = some x := by rfl) (hx : Loc X.env.scope x := by first | exact Or.inl rfl | exact Or.inr rfl)
    (hf : X.fn x = true ∨ X.env.scope.names.lookup x = some .local := by first | exact .inl rfl | exact .inr rfl | assumption) : DS X W fr (.AugAssign (.Name x pos') op e pos) (tAug i te r) (dAug i o d) :=
  ⟨ps_aug hN hi hx h.pe (fun pins s σ H x y v u Q I r1 r2 hq => ho pins s σ H x y v u Q I r1 r2 hq) hf, ss_aug h.sn hs⟩
theorem iop_addD : OpR X (inplaceOp .Add) (fun x y H Q => rI0 (fun i j => .int (i + j)) x y H Q ∨ (∃ i j, x = .str i ∧ y = .str j ∧ i.length + j.length ≤ sizeLine ∧ Q (.str (i ++ j)) H)) := iop_add.or iop_add_str
def iaddD : Op2
  | .int i, .int j, P => P (.int (i + j))
  | .str x, .str y, P => x.length + y.length ≤ sizeLine ∧ P (.str (x ++ y))
  | _, _, _ => False
theorem ops_iadd {K : Frg} : OpS K (fun x y H Q => rI0 (fun i j => .int (i + j)) x y H Q ∨ (∃ i j, x = .str i ∧ y = .str j ∧ i.length + j.length ≤ sizeLine ∧ Q (.str (i ++ j)) H)) iaddD := fun B H x y d e P Q nb rx ry hop k => by
  unfold iaddD at hop
  split at hop
  · cases repb_int rx; cases repb_int ry
    exact .inl ⟨_, _, rfl, rfl, k _ _ H (Go.refl _) rep_int hop⟩
  · cases repb_str rx; cases repb_str ry
    exact .inr ⟨_, _, rfl, rfl, hop.1, k _ _ H (Go.refl _) rep_str hop.2⟩
  · exact hop.elim
theorem iop_mulD : OpR X (inplaceOp .Mult) (rI MulOk (fun i j => .int (i * j))) := opI fun _ _ _ _ _ _ _ hc q => imul_int q hc
def imulD : Op2
  | .int i, .int j, P => MulOk i j ∧ P (.int (i * j))
  | _, _, _ => False
theorem ops_imul {K : Frg} : OpS K (rI MulOk (fun i j => .int (i * j))) imulD := fun B H x y d e P Q nb rx ry hop k => by
  unfold imulD at hop
  split at hop
  · cases repb_int rx; cases repb_int ry
    exact ⟨_, _, rfl, rfl, hop.1, k _ _ H (Go.refl _) rep_int hop.2⟩
  · exact hop.elim
theorem ds_augAdd {i : Nat} {x : Str} {pos' : Pos} (hN : X.N.Nodup) (h : DB X W e te d) (hi : X.N[i]? = some x := by rfl) (hx : Loc X.env.scope x := by first | exact Or.inl rfl | exact Or.inr rfl)
    (hf : X.fn x = true ∨ X.env.scope.names.lookup x = some .local := by first | exact .inl rfl | exact .inr rfl | assumption) : DS X W fr (.AugAssign (.Name x pos') .Add e pos) (tAug i te (fun x y H Q => rI0 (fun i j => .int (i + j)) x y H Q ∨ (∃ i j, x = .str i ∧ y = .str j ∧ i.length + j.length ≤ sizeLine ∧ Q (.str (i ++ j)) H))) (dAug i iaddD d) := ds_aug hN iop_addD ops_iadd h hi hx hf
theorem ds_augMul {i : Nat} {x : Str} {pos' : Pos} (hN : X.N.Nodup) (h : DB X W e te d) (hi : X.N[i]? = some x := by rfl) (hx : Loc X.env.scope x := by first | exact Or.inl rfl | exact Or.inr rfl)
    (hf : X.fn x = true ∨ X.env.scope.names.lookup x = some .local := by first | exact .inl rfl | exact .inr rfl | assumption) : DS X W fr (.AugAssign (.Name x pos') .Mult e pos) (tAug i te (rI MulOk (fun i j => .int (i * j)))) (dAug i imulD d) := ds_aug hN iop_mulD ops_imul h hi hx hf
/-- xs[k] = e -/
theorem ds_setIx {i : Nat} {x : Str} {k : Expr} {tk : TE} {dk : DTE} {p1 p2 : Pos} (h : DE X W e te d) (hk : DB X W k tk dk) (hN : X.N[i]? = some x := by rfl) (hv : Vis X.env.scope x := by first | exact Or.inl rfl | exact Or.inr (Or.inl rfl) | exact Or.inr (Or.inr rfl)) (hd : (x == ("__debug__" : Str)) = false := by decide)
    (hcd : (x == ("__classdict__" : Str)) = false := by decide)
    (ha : ∀ v, assign (.Subscript (.Name x p1) k p2) X.env v = (do
      let ov ← holding [v] (eval (.Name x p1) X.env)
      let iv ← holding [v, ov] (eval k X.env)
      standAt p2
      holding [v, ov, iv] (setItem ov iv v)
      release [v, ov, iv] []) := by intro _; rfl)
    (hs : swapsWithSole [.Subscript (.Name x p1) k p2] e pos.line X.env = pure false := by rfl) (hw : swappedStores [.Subscript (.Name x p1) k p2] e X.env = pure none := by rfl)
    (h1 : (assignEach [.Subscript (.Name x p1) k p2] X.env).map (·.2) = [assign (.Subscript (.Name x p1) k p2) X.env] := by rfl) :
    DS X W fr (.Assign [.Subscript (.Name x p1) k p2] e pos) (tAsg te (gSub (tVar i) tk rSetL)) (dSetIx i d dk) := ⟨ps_asg h.pe (pg_sub (pe_var hN hv hd hcd) hk.pe set_list ha) hs hw h1, ss_setIx h.sn hk.sn⟩
/-- xs.append(e) -/
theorem ds_app {i : Nat} {x : Str} {p1 apos cpos : Pos} (h : DE X W e te d) (hN : X.N[i]? = some x := by rfl) (hv : Vis X.env.scope x := by first | exact Or.inl rfl | exact Or.inr (Or.inl rfl) | exact Or.inr (Or.inr rfl)) (hd : (x == ("__debug__" : Str)) = false := by decide)
    (hcd : (x == ("__classdict__" : Str)) = false := by decide)
    (hbase : attributeBase (.Name x p1) "append" X.env (eval (.Name x p1) X.env) = eval (.Name x p1) X.env := by rfl)
    (hfew : ((backTo cpos (starEach (e :: []) X.env)).all (fun x => !x.1) && (backToKw cpos (keywordEach [] X.env)).all (fun x => x.1.isSome)
      && decide ((e :: ([] : List Expr)).length + ([] : List Keyword).length + (if ([] : List Keyword).isEmpty then 0 else 1) < 30)) = true := by rfl)
    (hline : (apos.endLine == cpos.line) = true := by rfl) (hs : starEach (e :: []) X.env = (false, eval e X.env) :: starEach [] X.env := by rfl) (hplain : (backTo cpos (starEach [] X.env)).any (·.1) = false := by rfl)
    (hsw : swapsWith (.Call (.Attribute (.Name x p1) "append" apos) [e] [] cpos) none pos.line X.env = pure false := by rfl) :
    DS X W fr (.Expr (.Call (.Attribute (.Name x p1) "append" apos) [e] [] cpos) pos) (tDrop (tBM X.K "list" rAppend (tVar i) (tCons te tNil))) (dApp i d) :=
  ⟨ps_expr (pe_bm PySem.F.plainAttrs_list PySem.F.slot_list_append PySem.F.type_list_append mt_append (pe_var hN hv hd hcd) (pa_cons h.pe pa_nil hs) hbase hfew hline hs hplain) hsw, ss_app h.sn⟩
/-- xs.clear() -/
theorem ds_clear {i : Nat} {x : Str} {p1 apos cpos : Pos} (hN : X.N[i]? = some x := by rfl) (hv : Vis X.env.scope x := by first | exact Or.inl rfl | exact Or.inr (Or.inl rfl) | exact Or.inr (Or.inr rfl)) (hd : (x == ("__debug__" : Str)) = false := by decide)
    (hcd : (x == ("__classdict__" : Str)) = false := by decide)
    (hbase : attributeBase (.Name x p1) "clear" X.env (eval (.Name x p1) X.env) = eval (.Name x p1) X.env := by rfl) (hline : (apos.endLine == cpos.line) = true := by rfl)
    (hsw : swapsWith (.Call (.Attribute (.Name x p1) "clear" apos) [] [] cpos) none pos.line X.env = pure false := by rfl) :
    DS X W fr (.Expr (.Call (.Attribute (.Name x p1) "clear" apos) [] [] cpos) pos) (tDrop (tBM0 X.K "list" rClear (tVar i))) (dClear i) :=
  ⟨ps_expr (pe_bm0 PySem.F.plainAttrs_list PySem.F.slot_list_clear PySem.F.type_list_clear mt_clear (pe_var hN hv hd hcd) hbase hline) hsw, ss_clear⟩
/-! loops -/
structure DI (X : Cx) (W : WX) (tg iter : Expr) (wi : TI) (t : DTA) : Prop where
  pi : PI X tg iter wi
  sn : SndI X.K W wi t
theorem ds_while {c : Expr} {body : List Stmt} {tc : TT} {dc : DTT} {tb : TS} {db : DTS} (hp : PassesOwn (model X.prog X.w) X.A X.env X.xe) (hc : DT X W c tc dc) (hb : DSs X W fr body tb db) : DS X W fr (.While c body [] pos) (tWhile tc tb) (dWhile dc db) := ⟨ps_while hp hc.pe hb.ps, ss_while hc.sn hb.sn⟩
theorem ds_for {tg iter : Expr} {body : List Stmt} {wi : TI} {t : DTA} {g : TG} {dg : DTG} {tb : TS} {db : DTS} (hp : PassesOwn (model X.prog X.w) X.A X.env X.xe) (hc : X.calm = true) (hi : DI X W tg iter wi t) (hg : DGt X tg g dg) (hb : DSs X W fr body tb db)
    (hs : ∀ x, foldedSetIterable iter X.env x = pure x := by intro _; rfl) : DS X W fr (.For tg iter body [] pos) (tFor wi g tb) (dFor t dg db) := ⟨ps_for hp hc hi.pi hg.pg hb.ps hs, ss_for hi.sn hg.sn hb.sn⟩
theorem di_list {tg : Expr} (h : DE X W e te d) : DI X W tg e (iList X.K te) (dItL d) := ⟨pi_list h.pe, si_list h.sn⟩
theorem di_tup {tg : Expr} (h : DE X W e te d) : DI X W tg e (iTup X.K te) (dItT d) := ⟨pi_tup h.pe, si_tup h.sn⟩
theorem di_str {tg : Expr} (h : DE X W e te d) : DI X W tg e (iStr te) (dItS d) := ⟨pi_str h.pe, si_str h.sn⟩
theorem di_range1 {tg a : Expr} {ta : TA} {da : DTA} {p : Pos} (hg : Gl X "range") (hm : X.mg "range" = none) (ha : DAB X W [a] ta da) (hs : starEach [a] X.env = [(false, eval a X.env)] := by rfl) : DI X W tg (.Call (.Name "range" p) [a] [] pos) (iRng1 ta) (dItR1 da) := ⟨pi_range1 hg hm ha.pe hs, si_range1 ha.sn⟩
theorem di_range2 {tg a b : Expr} {ta : TA} {da : DTA} {p : Pos} (hg : Gl X "range") (hm : X.mg "range" = none) (ha : DAB X W [a, b] ta da) (hs : starEach [a, b] X.env = [(false, eval a X.env), (false, eval b X.env)] := by rfl) (hs2 : starEach [b] X.env = [(false, eval b X.env)] := by rfl) :
    DI X W tg (.Call (.Name "range" p) [a, b] [] pos) (iRng2 ta) (dItR2 da) := ⟨pi_range2 hg hm ha.pe hs hs2, si_range2 ha.sn⟩
theorem di_enum {ta : TA} {da : DTA} {p tpos : Pos} {elts : List Expr} {kk : Nat} (hg : Gl X "enumerate") (hm : X.mg "enumerate" = none) (ha : DA X W [e] ta da) (hs : starEach [e] X.env = [(false, eval e X.env)] := by rfl) :
    DI X W (.Tuple elts kk tpos) (.Call (.Name "enumerate" p) [e] [] pos) (iEnum X.K ta) (dItE da) := ⟨pi_enum hg hm ha.pe hs, si_enum ha.sn⟩
theorem di_zip {e2 : Expr} {ta : TA} {da : DTA} {p tpos : Pos} {elts : List Expr} {kk : Nat} (hg : Gl X "zip") (hm : X.mg "zip" = none) (ha : DA X W [e, e2] ta da)
    (hs : starEach [e, e2] X.env = (false, eval e X.env) :: starEach [e2] X.env := by rfl) (hpl : (backTo pos (starEach [e2] X.env)).any (·.1) = false := by rfl) :
    DI X W (.Tuple elts kk tpos) (.Call (.Name "zip" p) [e, e2] [] pos) (RZ.iZipA X.K ta) (dItZ da) := ⟨RZ.pi_zipA hg hm ha.pe hs hpl, si_zip ha.sn⟩
end

/-! ### what a def promises -/
/-- arguments by a datum of any kind, what is asked of it, what comes -/
structure FS where
  {α : Type}
  args : α → List D
  pre : α → Prop
  out : α → Except Str D
/-- what is wanted of a result -/
def Ends2 (r : Except Str D) (Q : D → Prop) (E : Str → Prop) : Prop := match r with
  | .ok d => Q d
  | .error c => E c
def Post (K : Frg) (fr : Bool) (A : List Addr) (H H' : Hp) (d : D) (v : V) : Prop := match fr with
  | false => Rep K (hide A H') d v
  | true => ∃ p, v = .ref p ∧ H p = none ∧ Own K (p :: A) H' d p
def spD (K : Frg) (fr : Bool) (S : FS) : Sp := fun vs H Q E => ∃ (a : S.α) (A : List Addr), (∀ b ∈ A, ∃ o, H b = some o) ∧ Reps K (hide A H) (S.args a) vs ∧ S.pre a ∧
  Ends2 (S.out a) (fun d => ∀ v H', Go H H' → Post K fr A H H' d v → Q v H') fun c => ∀ H', Go H H' → E (.ref (He.ga K c)) none H'
def dCall (S : FS) (t : DTA) : DTE := fun ρ Q E => t ρ (fun ds ρ' => ∃ a : S.α, ds = S.args a ∧ S.pre a ∧ Ends2 (S.out a) (fun d => Q d ρ') fun c => E c ρ') E
theorem own_some {K : Frg} {A : List Addr} {H : Hp} {d : D} {a : Addr} (x : Own K A H d a) : ∃ o, H a = some o := by
  cases d with
  | lst ds => obtain ⟨xs, h, r⟩ := x; exact ⟨_, h⟩
  | dT ds => obtain ⟨xs, h, r⟩ := x; exact ⟨_, h⟩
  | dK ds => obtain ⟨xs, h, r⟩ := x; exact ⟨_, h⟩
  | ins C ds => obtain ⟨dx, xs, h, r⟩ := x; exact ⟨_, h⟩
  | _ => exact False.elim x
/-- behind a call that made a fresh object -/
theorem EnvOk.callF {K : Frg} {H0 H H' : Hp} {A0 : Bs} {A : List Addr} {σ : L2.St} {ρ : DEnv} {p : Addr} (x : EnvOk K H0 A0 A σ H ρ) (g : Go H H') (hp : H p = none) (hs : ∃ o, H' p = some o) : EnvOk K H0 A0 (p :: A) σ H' ρ ∧ Go (hide A H) (hide (p :: A) H') := by
  have g1 : Go (hide A H) (hide (p :: A) H') := fun a u e => by
    obtain ⟨h1, h2⟩ := hide_some e
    have ne : a ≠ p := ne_of_none h2 hp
    rw [hide_out (by simp only [List.mem_cons, not_or]; exact ⟨ne, h1⟩)]
    exact g a u h2
  refine ⟨⟨x.len, x.go0.trans g, x.go1.trans g1, fun a m => List.mem_cons_of_mem _ (x.sub a m), fun a m => ?_, fun a m n => ?_, fun i d e => let ⟨v, e, r⟩ := x.sh i d e; ⟨v, e, r.mono g1.le⟩,
    fun i d e => let ⟨a, e, m, n, r⟩ := x.ow i d e; ⟨a, e, List.mem_cons_of_mem _ m, n, r.go g g1⟩, x.nd, x.me⟩, g1⟩
  · rcases List.mem_cons.mp m with rfl | m
    · exact hs
    · obtain ⟨u, e⟩ := x.al a m
      exact g.isSm e
  · rcases List.mem_cons.mp m with rfl | m
    · exact x.no0 hp
    · exact x.fr0 a m n
section
variable {K : Frg} {W : WX} {S : FS} {ta : TA} {da : DTA}
theorem sn_call (ha : SndA K W ta da) : SndE K W (tCallS (spD K false S) (WE W) ta) (dCall S da) := fun H0 A0 A σ H ρ Q E Qr x ht q e =>
  ha H0 A0 A σ H ρ _ E _ x ht (fun ds ρ1 vs H1 A1 af r hq => by
    obtain ⟨a, rfl, hp, hq⟩ := hq
    refine ⟨a, A1, af.ok.al, r, hp, ?_⟩
    unfold Ends2 at hq ⊢
    split at hq
    · exact fun v H' g post => q _ ρ1 v H' A1 (af.more g) post hq
    · exact fun H' g => e _ ρ1 H' A1 (af.more g) hq) e
theorem sn_callF (ha : SndA K W ta da) : SndF K W (tCallS (spD K true S) (WE W) ta) (dCall S da) := fun H0 A0 A σ H ρ Q E Qr x ht q e =>
  ha H0 A0 A σ H ρ _ E _ x ht (fun ds ρ1 vs H1 A1 af r hq => by
    obtain ⟨a, rfl, hp, hq⟩ := hq
    refine ⟨a, A1, af.ok.al, r, hp, ?_⟩
    unfold Ends2 at hq ⊢
    split at hq
    · rintro v H' g ⟨p, rfl, hp, own⟩
      obtain ⟨x', g'⟩ := af.ok.callF g hp (own_some own)
      exact q _ ρ1 p H' (p :: A1) ⟨x', af.go.trans g', af.gf.trans g⟩ List.mem_cons_self (af.ok.noA0 hp) (af.ok.noSlot (af.ok.noA hp)) own hq
    · exact fun H' g => e _ ρ1 H' A1 (af.more g) hq) e
end
/-- a def of the module, by its name -/
def GFn (P : Program) (w : World) (K : Frg) (mg : Str → Option Value) (base : Heap) (x : Str) (k : Nat) (fr : Bool) (S : FS) : Prop :=
  ∃ (f : Addr) (fd : FuncData) (ps : List Str), FnOk P w K mg base (L2.CX P w) k f fd ps (spD K fr S) ∧ mg x = some (.ref f) ∧ PySem.W.keepIn K (.ref f) = true ∧ Binds K fd ps []
section
variable {X : Cx} {W : WX} {S : FS} {e : Expr} {es : List Expr} {ta : TA} {da : DTA} {p pos : Pos} {x : Str} {k : Nat}
theorem pe_callG {fr : Bool} {E : L2.St → XK} (G : GFn X.prog X.w X.K X.mg X.base x k fr S) (hr : Room k X.A) (hg : Gl X x) (hx : ∀ σ, PassesAt (L2.CX X.prog X.w) X σ (E σ)) (ha : PA X (e :: es) ta)
    (hdb : (x == ("__debug__" : Str)) = false := by decide) (he : starEach (e :: es) X.env = (false, eval e X.env) :: starEach es X.env := by rfl) (hpl : (backTo pos (starEach es X.env)).any (·.1) = false := by rfl) :
    PE X (.Call (.Name x p) (e :: es) [] pos) (tCallS (spD X.K fr S) E ta) := by
  obtain ⟨f, fd, ps, F, hm, hk, hb⟩ := G
  exact pe_callS F hr hg hm hk hb hx ha hdb he hpl
theorem de_call (G : GFn X.prog X.w X.K X.mg X.base x k false S) (hr : Room k X.A) (tk : Takes X W) (ha : DA X W (e :: es) ta da) (hg : Gl X x := by rfl)
    (hdb : (x == ("__debug__" : Str)) = false := by decide) (he : starEach (e :: es) X.env = (false, eval e X.env) :: starEach es X.env := by rfl) (hpl : (backTo pos (starEach es X.env)).any (·.1) = false := by rfl) :
    DE X W (.Call (.Name x p) (e :: es) [] pos) (tCallS (spD X.K false S) (WE W) ta) (dCall S da) := ⟨pe_callG G hr hg (passAt tk) ha.pe hdb he hpl, sn_call ha.sn⟩
theorem df_call (G : GFn X.prog X.w X.K X.mg X.base x k true S) (hr : Room k X.A) (tk : Takes X W) (ha : DA X W (e :: es) ta da) (hg : Gl X x := by rfl)
    (hdb : (x == ("__debug__" : Str)) = false := by decide) (he : starEach (e :: es) X.env = (false, eval e X.env) :: starEach es X.env := by rfl) (hpl : (backTo pos (starEach es X.env)).any (·.1) = false := by rfl) :
    DF X W (.Call (.Name x p) (e :: es) [] pos) (tCallS (spD X.K true S) (WE W) ta) (dCall S da) := ⟨pe_callG G hr hg (passAt tk) ha.pe hdb he hpl, sn_callF ha.sn⟩
end
/-! ### a def keeps its promise -/
def dstart (N : List Str) (ds : List D) : DEnv := ds.map Sl.sh ++ List.replicate (N.length - ds.length) .em
theorem start_ok {K : Frg} {H : Hp} {A : List Addr} {N : List Str} {ds : List D} {vs : List V} (al : ∀ b ∈ A, ∃ o, H b = some o) (r : Reps K (hide A H) ds vs) : EnvOk K H ⟨A, none⟩ A (L2.start N vs) H (dstart N ds) := by
  have hl := r.length
  have key : ∀ (i : Nat) (s : Sl), (dstart N ds)[i]? = some s → s = .em ∨ ∃ d v, s = .sh d ∧ (L2.start N vs)[i]? = some (some v) ∧ Rep K (hide A H) d v := fun i s h => by
    unfold dstart at h
    by_cases hi : i < ds.length
    · rw [List.getElem?_append_left (by simpa using hi), List.getElem?_map] at h
      cases e : ds[i]? with
      | none => rw [e] at h; cases h
      | some d =>
        rw [e] at h
        obtain ⟨v, hv, rv⟩ := r.get e
        refine .inr ⟨d, v, (Option.some.inj h).symm, ?_, rv⟩
        unfold L2.start
        rw [List.getElem?_append_left (by rw [List.length_map, ← hl]; exact hi), List.getElem?_map, hv]
        rfl
    · rw [List.getElem?_append_right (by simpa using hi), List.getElem?_replicate] at h
      split at h
      · exact .inl (Option.some.inj h).symm
      · cases h
  refine ⟨?_, Go.refl _, Go.refl _, fun _ m => m, al, fun a m n => absurd m n, fun i d h => ?_, fun i d h => ?_, fun i j d e a h => ?_, fun p z => nomatch z⟩
  · unfold dstart L2.start
    simp [hl]
  · rcases key i _ h with e | ⟨d', v, e, h1, h2⟩
    · cases e
    · cases e; exact ⟨v, h1, h2⟩
  · rcases key i _ h with e | ⟨d', v, e, h1, h2⟩ <;> cases e
  · rcases key i _ h with e | ⟨d', v, e, h1, h2⟩ <;> cases e
section
variable {P : Program} {w : World} {K : Frg} {mg : Str → Option Value} {base : Heap} {x qual : Str} {params : Arguments} {body : List Stmt} {scope : Scope} {f : Addr} {fd : FuncData}
/-- the wish of a def's body -/
abbrev WD (E : XK) : WX := fun cls d _ H => E cls d H
theorem fn_okD {N ps : List Str} {k : Nat} {fr : Bool} {S : FS} {t : DTS} (F : FunD K x qual params body scope [] [] f fd) (Sc : FnScope N ps scope) (len : ∀ a, (S.args a).length = ps.length)
    (hbody : ∀ (cdv : Value) (A : Around) (outer : List Env) (s : Shared) (H : Hp) (E : XK), Room k (A.deeper (envOfC qual scope s.heap.objs.size f cdv)) →
      Takes (cxOf (L2.CX P w) P w K mg base N qual scope f cdv A outer s H E) (WD E) → PassesOwn (model P w) (A.deeper (envOfC qual scope s.heap.objs.size f cdv)) (envOfC qual scope s.heap.objs.size f cdv) (cxOf (L2.CX P w) P w K mg base N qual scope f cdv A outer s H E).xe →
      ∃ ts, DSs (cxOf (L2.CX P w) P w K mg base N qual scope f cdv A outer s H E) (WD E) fr body ts t)
    (hm : ∀ a, S.pre a → t { nx := fun _ => fr = false ∧ S.out a = .ok .non, rt := fun d => S.out a = .ok d, ex := fun c _ => S.out a = .error c } (dstart N (S.args a))) :
    FnOk P w K mg base (L2.CX P w) (k + 1) f fd ps (spD K fr S) := by
  refine F.ok Sc (fun vs H Q E h => ?_) fun cdv A outer s H vs Q E hr h => ?_
  · obtain ⟨a, A, al, r, _⟩ := h
    rw [← r.length]
    exact len a
  · obtain ⟨a, B, al, r, hp, hq⟩ := h
    obtain ⟨ts, hts⟩ := hbody cdv A outer s H E hr (takes_of rfl rfl rfl rfl) (passes_of rfl)
    refine ⟨ts, hts.ps, hts.sn H ⟨B, none⟩ B _ H _ _ _ (start_ok al r) (hm a hp) ⟨fun ρ' σ' H' A' af h => ?_, fun d ρ' σ' v H' A' af hF hN h => ?_, fun _ _ _ _ _ h => h.elim, fun _ _ _ _ _ h => h.elim, fun c ρ' σ' H' A' af h => ?_⟩⟩
    · obtain ⟨rfl, h⟩ := h
      unfold Ends2 at hq
      rw [h] at hq
      exact hq .non H' af.ok.go0 (show Rep K (hide B H') .non .non from rep_non)
    · unfold Ends2 at hq
      rw [h] at hq
      refine hq v H' af.ok.go0 ?_
      cases fr with
      | false => exact (hN rfl).mono (go_hide_sub af.ok.sub).le
      | true =>
        obtain ⟨p, rfl, hp, h0, ns, own⟩ := hF rfl
        refine ⟨p, rfl, af.ok.fr0 p hp h0, own.at rfl (go_hide_sub fun b m => ?_)⟩
        rcases List.mem_cons.mp m with rfl | m
        · exact hp
        · exact af.ok.sub b m
    · unfold Ends2 at hq
      rw [h] at hq
      exact hq H' af.ok.go0
end
end DL

end

section
/-! The D layer, 7: instances, methods, texts' methods, errors. -/
namespace DL
open PySem PySem.Spec PyProof.Rows L2
section
variable {K : Frg} {H : Hp}
theorem RepsF.look : ∀ {fs : List (Str × D)} {gs : List (Str × V)} {f : Str} {d : D}, RepsF K H fs gs → fs.lookup f = some d → ∃ v, gs.lookup f = some v ∧ Rep K H d v
  | [], _, _, _, _, e => nomatch (show (none : Option D) = some _ from e)
  | (k, d0) :: fs, gs, f, d, h, e => by
    unfold RepsF at h
    obtain ⟨v, r, rfl, h1, h2⟩ := h
    rw [List.lookup_cons] at e ⊢
    cases q : (f == k) with
    | true =>
      rw [q] at e
      have e' : d0 = d := Option.some.inj e
      subst e'
      exact ⟨v, rfl, h1⟩
    | false =>
      rw [q] at e
      exact RepsF.look h2 e
theorem RepsF.lookN : ∀ {fs : List (Str × D)} {gs : List (Str × V)} {f : Str}, RepsF K H fs gs → fs.lookup f = none → gs.lookup f = none
  | [], gs, f, h, e => by unfold RepsF at h; subst h; rfl
  | (k, d0) :: fs, gs, f, h, e => by
    unfold RepsF at h
    obtain ⟨v, r, rfl, h1, h2⟩ := h
    rw [List.lookup_cons] at e ⊢
    cases q : (f == k) with
    | true => rw [q] at e; cases e
    | false =>
      rw [q] at e
      exact RepsF.lookN h2 e
theorem RepsF.length : ∀ {fs : List (Str × D)} {gs : List (Str × V)}, RepsF K H fs gs → gs.length = fs.length
  | [], gs, h => by unfold RepsF at h; subst h; rfl
  | (k, d0) :: fs, gs, h => by
    unfold RepsF at h
    obtain ⟨v, r, rfl, h1, h2⟩ := h
    simp [RepsF.length h2]
def putD (f : Str) (d : D) : List (Str × D) → List (Str × D)
  | [] => [(f, d)]
  | (g, x) :: r => if g = f then (g, d) :: r else (g, x) :: putD f d r
theorem RepsF.put {f : Str} {d : D} {v : V} (hv : Rep K H d v) : ∀ {fs : List (Str × D)} {gs : List (Str × V)}, RepsF K H fs gs → RepsF K H (putD f d fs) (putF f v gs)
  | [], gs, h => by
    unfold RepsF at h; subst h
    unfold putD putF RepsF
    exact ⟨v, [], rfl, hv, by unfold RepsF; rfl⟩
  | (k, d0) :: fs, gs, h => by
    unfold RepsF at h
    obtain ⟨w, r, rfl, h1, h2⟩ := h
    unfold putD putF
    by_cases q : k = f
    · rw [if_pos q, if_pos q]
      unfold RepsF
      exact ⟨v, r, rfl, hv, h2⟩
    · rw [if_neg q, if_neg q]
      unfold RepsF
      exact ⟨w, _, rfl, h1, RepsF.put hv h2⟩
end
/-! ### e.f -/
def dFld (Cs : List Str) (f : Str) (t : DTE) : DTE := fun ρ Q E => t ρ (fun d ρ1 => match d with
  | .ins C fs => C ∈ Cs ∧ ∃ v, fs.lookup f = some v ∧ Q v ρ1
  | _ => False) E
def FldF (K : Frg) (Cs : List Str) (f : Str) : Prop := ∀ C ∈ Cs, Cls K (He.ga K C) ∧ NoAttr K (He.ga K C) f
def dFldSet (i : Nat) (Cs : List Str) (f : Str) (t : DTE) : DTS := fun DD ρ => t ρ (fun d ρ1 => match nth ρ1 i with
  | .ow (.ins C fs) => C ∈ Cs ∧ fs.length < 1000 ∧ DD.nx (ρ1.set i (.ow (.ins C (putD f d fs))))
  | _ => False) DD.ex
section
variable {K : Frg} {W : WX} {fr : Bool} {te : TE} {t : DTE} {Cs : List Str} {f : Str} {i : Nat}
theorem sn_fld (h : SndB K W te t) (hc : FldF K Cs f) : SndE K W (tFld K te f) (dFld Cs f t) := fun H0 A0 A σ H ρ Q E Qr x ht q e =>
  h H0 A0 A σ H ρ _ E _ x ht (fun d ρ1 v H1 A1 af r hq => by
    cases d with
    | ins C fs =>
      obtain ⟨m, w, l, hq⟩ := hq
      obtain ⟨a, dx, gs, rfl, s, r⟩ := r
      obtain ⟨c1, c2⟩ := hc C m
      obtain ⟨u, l', ru⟩ := r.look l
      exact ⟨a, _, dx, gs, u, rfl, s, c1, c2, l', q w ρ1 u H1 A1 af ru hq⟩
    | _ => exact hq.elim) e
theorem ss_fldSet (h : SndE K W te t) (hc : FldF K Cs f) : SndS K W fr (sFld K (tVar i) te f) (dFldSet i Cs f t) := fun H0 A0 A σ H ρ DD D x ht l =>
  h H0 A0 A σ H ρ _ _ _ x ht (fun d ρ1 v H1 A1 af r hq => by
    split at hq
    · rename_i C fs hn
      obtain ⟨m, hl, hq⟩ := hq
      obtain ⟨c1, c2⟩ := hc C m
      obtain ⟨a, e, m1, n1, dx, gs, ha, rf⟩ := af.ok.ow i _ (nth_ow hn)
      refine ⟨_, e, a, _, dx, gs, rfl, ha, c1, c2, by rw [rf.length]; exact hl, ?_⟩
      have ro : Own K A1 (upd H1 a (.ins (He.ga K C) dx (putF f v gs))) (.ins C (putD f d fs)) a := by
        refine ⟨dx, _, upd_same, ?_⟩
        rw [hide_upd m1]
        exact rf.put r
      obtain ⟨x', g'⟩ := af.ok.put (nth_ow hn) e ro
      exact l.nx _ _ _ A1 ⟨x', af.go.trans g'⟩ hq
    · exact hq.elim) fun c ρ' H' A' af he => l.ex c ρ' σ H' A' af.aft he
end
section
variable {X : Cx} {W : WX} {fr : Bool} {e o : Expr} {te : TE} {t : DTE} {Cs : List Str} {f : Str} {pos pos' p1 : Pos}
theorem de_fld (h : DB X W e te t) (hc : FldF X.K Cs f) (hb : attributeBase e f X.env (eval e X.env) = eval e X.env := by rfl) : DE X W (.Attribute e f pos) (tFld X.K te f) (dFld Cs f t) := ⟨pe_fld h.pe hb, sn_fld h.sn hc⟩
theorem ds_fldSet (i : Nat) {x : Str} (h : DE X W e te t) (hc : FldF X.K Cs f) (hN : X.N[i]? = some x := by rfl) (hv : Vis X.env.scope x := by first | exact Or.inl rfl | exact Or.inr (Or.inl rfl) | exact Or.inr (Or.inr rfl)) (hd : (x == ("__debug__" : Str)) = false := by decide)
    (hcd : (x == ("__classdict__" : Str)) = false := by decide) (hs : swapsWith e (some (.Attribute (.Name x p1) f pos')) pos.line X.env = pure false := by rfl) :
    DS X W fr (.Assign [.Attribute (.Name x p1) f pos'] e pos) (sFld X.K (tVar i) te f) (dFldSet i Cs f t) := ⟨ps_fld (pe_var hN hv hd hcd) h.pe hs, ss_fldSet h.sn hc⟩
end
/-! ### making an instance -/
def spI (K : Frg) (C : Str) (S : FS) : Sp := fun vs H1 Q E => ∃ (a : S.α) (A : List Addr) (H : Hp) (x dx : Addr) (vs' : List V), vs = .ref x :: vs' ∧ H x = none ∧ H dx = none ∧ dx ≠ x ∧ H1 = upd (upd H dx (.own x)) x (.ins (He.ga K C) dx []) ∧
  (∀ b ∈ A, ∃ o, H b = some o) ∧ Reps K (hide A H) (S.args a) vs' ∧ S.pre a ∧ Ends2 (S.out a) (fun d => ∀ H', Go H H' → Own K (x :: A) H' d x → Q .non H') fun c => ∀ H', Go H H' → E (.ref (He.ga K c)) none H'
def tMakeS (C : Addr) (sp : Sp) (E : L2.St → XK) (t : TA) : TE := fun σ H Q => t σ H fun vs H1 => ∀ x dx, H1 x = none → H1 dx = none → dx ≠ x →
  sp (.ref x :: vs) (upd (upd H1 dx (.own x)) x (.ins C dx [])) (fun v H2 => v = .non ∧ Q (.ref x) H2) (E σ)
section
variable {X : Cx} {CX : CXT} {k : Nat} {f C : Addr} {fd : FuncData} {ps : List Str} {sp : Sp} {E : L2.St → XK} {x : Str} {p pos : Pos} {e : Expr} {es : List Expr} {t : TA}
theorem run_makeS {pins : List (Addr × Obj)} {σ : L2.St} {H : Hp} {s : Shared} {Q : VK} {us : List Value} {vs : List V} (M : Mk X.K C f) (F : FnOk X.prog X.w X.K X.mg X.base CX k f fd ps sp) (hr : Room (k + 1) X.A) (hb : Binds X.K fd ps [])
    (hx : PassesAt CX X σ (E σ)) (I : Inv X pins σ H s) (r : Vals vs us)
    (h : ∀ x dx, H x = none → H dx = none → dx ≠ x → sp (.ref x :: vs) (upd (upd H dx (.own x)) x (.ins C dx [])) (fun v H2 => v = .non ∧ Q (.ref x) H2) (E σ)) :
    wpAny (model X.prog X.w) X.A (call (.ref C) us) (EP X pins σ Q) X.xe s := by
  have hq := h (s.heap.objs.size + 1) s.heap.objs.size (I.hok.fresh (Nat.le_succ _)) (I.hok.fresh (Nat.le_refl _)) (Nat.ne_of_lt (Nat.lt_succ_self _))
  have I2 := Inv.made (C := C) I
  have r2 : Vals (V.ref (s.heap.objs.size + 1) :: vs) (Value.ref (s.heap.objs.size + 1) :: us) := .cons rfl r
  have hl : (Value.ref (s.heap.objs.size + 1) :: us).length = ps.length := by
    have e := r2.length
    rw [F.len _ _ _ _ hq] at e
    exact e.symm
  have b := hb _ (Value.ref (s.heap.objs.size + 1) :: us) I2.kIn (by rw [List.append_nil]; exact hl)
  rw [List.append_nil] at b
  refine wpAny_call (make_map (f := f) I.kIn M.makes M.init (beq_iff_eq.mp M.fn) (codeAny_mono (F.run _ X.stack _ _ ⟨Value.ref (s.heap.objs.size + 1) :: us, []⟩ (Value.ref (s.heap.objs.size + 1) :: us) _ _ (E σ) (hr.make C us [])
    (I2.env0.make C us []) b r2 hq) fun r s' hq' => ?_))
  cases r with
  | error e => exact hx pins _ _ e s' I2 hq'
  | ok fl =>
    cases fl with
    | ret u =>
      obtain ⟨v, H', I3, rv, ev, q3⟩ := I2.after hq'
      subst ev
      exact ⟨rv, ⟨V.ref (s.heap.objs.size + 1), H', I3, rfl, q3⟩⟩
    | next => exact False.elim hq'
    | brk => exact False.elim hq'
    | cont => exact False.elim hq'
theorem pe_makeS (M : Mk X.K C f) (F : FnOk X.prog X.w X.K X.mg X.base CX k f fd ps sp) (hr : Room (k + 1) X.A) (hg : Gl X x) (hm : X.mg x = some (.ref C)) (hb : Binds X.K fd ps []) (hx : ∀ σ, PassesAt CX X σ (E σ))
    (ha : PA X (e :: es) t) (hdb : (x == ("__debug__" : Str)) = false := by decide) (he : starEach (e :: es) X.env = (false, eval e X.env) :: starEach es X.env := by rfl) (hpl : (backTo pos (starEach es X.env)).any (·.1) = false := by rfl) :
    PE X (.Call (.Name x p) (e :: es) [] pos) (tMakeS C sp E t) := by
  refine ⟨fun pins s σ H Q I h => ?_⟩
  refine wpAny_Call_Name_kw (ld_glob I hg hm ?_ hdb)
  refine PySem.W.callWith_K (h₀ := X.base) I.ok.mod.kin M.kp (thn (ha.run pos pins s σ H _ I h) fun us s1 ⟨vs, H1, I1, r, q⟩ => ⟨I1.kIn, ?_⟩) he hpl
  exact run_makeS M F hr hb (hx σ) I1 r q
theorem pe_makeS0 (M : Mk X.K C f) (F : FnOk X.prog X.w X.K X.mg X.base CX k f fd ps sp) (hr : Room (k + 1) X.A) (hg : Gl X x) (hm : X.mg x = some (.ref C)) (hb : Binds X.K fd ps []) (hx : ∀ σ, PassesAt CX X σ (E σ))
    (hdb : (x == ("__debug__" : Str)) = false := by decide) : PE X (.Call (.Name x p) [] [] pos) (tMakeS C sp E tNil) := by
  refine ⟨fun pins s σ H Q I h => ?_⟩
  refine wpAny_Call_Name_kw (ld_glob I hg hm ?_ hdb)
  exact PySem.W.callWith_K0 I.kIn M.kp (run_makeS (us := []) M F hr hb (hx σ) I .nil h)
end
theorem made_go {H : Hp} {x dx : Addr} {u w : HO} (h1 : H x = none) (h2 : H dx = none) : Go H (upd (upd H dx u) x w) := fun a o e => by
  rw [upd_ne (ne_of_none e h1), upd_ne (ne_of_none e h2)]
  exact e
section
variable {K : Frg} {W : WX} {S : FS} {ta : TA} {da : DTA} {C : Str}
theorem sn_makeF (ha : SndA K W ta da) : SndF K W (tMakeS (He.ga K C) (spI K C S) (WE W) ta) (dCall S da) := fun H0 A0 A σ H ρ Q E Qr x ht q e =>
  ha H0 A0 A σ H ρ _ E _ x ht (fun ds ρ1 vs H1 A1 af r hq => by
    obtain ⟨a, rfl, hp, hq⟩ := hq
    intro y dx hy hdx hne
    refine ⟨a, A1, H1, y, dx, vs, rfl, hy, hdx, hne, rfl, af.ok.al, r, hp, ?_⟩
    unfold Ends2 at hq ⊢
    split at hq
    · intro H' g own
      obtain ⟨x', g'⟩ := af.ok.callF g hy (own_some own)
      exact ⟨rfl, q _ ρ1 y H' (y :: A1) ⟨x', af.go.trans g', af.gf.trans g⟩ List.mem_cons_self (af.ok.noA0 hy) (af.ok.noSlot (af.ok.noA hy)) own hq⟩
    · exact fun H' g => e _ ρ1 H' A1 (af.more g) hq) e
end
/-- a class of the module, made -/
def GMk (P : Program) (w : World) (K : Frg) (mg : Str → Option Value) (base : Heap) (C : Str) (k : Nat) (S : FS) : Prop :=
  ∃ (f : Addr) (fd : FuncData) (ps : List Str), Mk K (He.ga K C) f ∧ FnOk P w K mg base (L2.CX P w) k f fd ps (spI K C S) ∧ mg C = some (.ref (He.ga K C)) ∧ Binds K fd ps []
/-- a method of a class -/
def GMt (P : Program) (w : World) (K : Frg) (mg : Str → Option Value) (base : Heap) (C m : Str) (k : Nat) (fr : Bool) (S : FS) : Prop :=
  ∃ (f : Addr) (fd : FuncData) (ps : List Str), Cls K (He.ga K C) ∧ Meth K (He.ga K C) m f ∧ FnOk P w K mg base (L2.CX P w) k f fd ps (spD K fr S) ∧ Binds K fd ps []
section
variable {X : Cx} {W : WX} {S : FS} {e : Expr} {es : List Expr} {ta : TA} {da : DTA} {p pos : Pos} {C : Str} {k : Nat}
theorem df_make (G : GMk X.prog X.w X.K X.mg X.base C k S) (hr : Room (k + 1) X.A) (tk : Takes X W) (ha : DA X W (e :: es) ta da) (hg : Gl X C := by rfl)
    (hdb : (C == ("__debug__" : Str)) = false := by decide) (he : starEach (e :: es) X.env = (false, eval e X.env) :: starEach es X.env := by rfl) (hpl : (backTo pos (starEach es X.env)).any (·.1) = false := by rfl) :
    DF X W (.Call (.Name C p) (e :: es) [] pos) (tMakeS (He.ga X.K C) (spI X.K C S) (WE W) ta) (dCall S da) := by
  obtain ⟨f, fd, ps, M, F, hm, hb⟩ := G
  exact ⟨pe_makeS M F hr hg hm hb (passAt tk) ha.pe hdb he hpl, sn_makeF ha.sn⟩
theorem df_make0 (G : GMk X.prog X.w X.K X.mg X.base C k S) (hr : Room (k + 1) X.A) (tk : Takes X W) (hg : Gl X C := by rfl)
    (hdb : (C == ("__debug__" : Str)) = false := by decide) : DF X W (.Call (.Name C p) [] [] pos) (tMakeS (He.ga X.K C) (spI X.K C S) (WE W) tNil) (dCall S (fun ρ Q _ => Q [] ρ)) := by
  obtain ⟨f, fd, ps, M, F, hm, hb⟩ := G
  exact ⟨pe_makeS0 M F hr hg hm hb (passAt tk) hdb, sn_makeF fun H0 A0 A σ H ρ Q E Qr x ht q e => q [] ρ [] H A x.afe Reps.nil ht⟩
end
/-! ### o.m(..) -/
def tMethS (C : Addr) (m : Str) (sp : Sp) (E : L2.St → XK) (ta : TE) (t : TA) : TE := fun σ H Q => ta σ H fun x H1 => ∃ a dx fs, x = .ref a ∧ H1 a = some (.ins C dx fs) ∧ fs.lookup m = none ∧ t σ H1 fun vs H2 => sp (x :: vs) H2 Q (E σ)
section
variable {X : Cx} {CX : CXT} {k : Nat} {f C : Addr} {fd : FuncData} {ps : List Str} {sp : Sp} {E : L2.St → XK} {m : Str} {p pos apos : Pos} {e o : Expr} {es : List Expr} {ta : TE} {t : TA}
theorem pe_methS {pl : Sem Bool} (he : PE X o ta) (c : Cls X.K C) (hm : Meth X.K C m f) (F : FnOk X.prog X.w X.K X.mg X.base CX k f fd ps sp) (hr : Room k X.A) (hb : Binds X.K fd ps []) (hx : ∀ σ, PassesAt CX X σ (E σ)) (ha : PA X (e :: es) t)
    (hst : starEach (e :: es) X.env = (false, eval e X.env) :: starEach es X.env := by rfl) (hpl : (backTo pos (starEach es X.env)).any (·.1) = false := by rfl)
    (ht : eval (.Call (.Attribute o m apos) (e :: es) [] pos) X.env = (do
      let ov ← eval o X.env
      standAt apos.atName
      let (f, first) ← holding [ov] (getMethod ov m pl)
      callWith pos f first (backTo pos (starEach (e :: es) X.env)) (backToKw pos (keywordEach [] X.env))) := by rfl) :
    PE X (.Call (.Attribute o m apos) (e :: es) [] pos) (tMethS C m sp E ta t) := by
  refine ⟨fun pins s σ H Q I h => ?_⟩
  refine PySem.W.methodCall_KW (pl := pl) (thn (he.run pins s σ H _ I h) fun u s1 ⟨x, H1, I1, rx, a, dx, fs, ex, ea, l, q⟩ => ?_) ht
  subst ex
  obtain rfl : u = Value.ref a := rx
  refine getmeth_ok I1 ea c hm l ?_
  refine PySem.W.callWith_K (first := [.ref a]) (h₀ := X.base) I.ok.mod.kin hm.kp (thn (ha.run pos pins s1 σ H1 _ I1 q) fun us s2 ⟨vs, H2, I2, r, q2⟩ => ⟨I2.kIn, ?_⟩) hst hpl
  exact run_fnS (us := .ref a :: us) (vs := .ref a :: vs) F hr hb (hx σ) I2 (.cons rfl r) q2
theorem pe_methS0 {pl : Sem Bool} (he : PE X o ta) (c : Cls X.K C) (hm : Meth X.K C m f) (F : FnOk X.prog X.w X.K X.mg X.base CX k f fd ps sp) (hr : Room k X.A) (hb : Binds X.K fd ps []) (hx : ∀ σ, PassesAt CX X σ (E σ))
    (ht : eval (.Call (.Attribute o m apos) [] [] pos) X.env = (do
      let ov ← eval o X.env
      standAt apos.atName
      let (f, first) ← holding [ov] (getMethod ov m pl)
      callWith pos f first (backTo pos (starEach [] X.env)) (backToKw pos (keywordEach [] X.env))) := by rfl) :
    PE X (.Call (.Attribute o m apos) [] [] pos) (tMethS C m sp E ta tNil) := by
  refine ⟨fun pins s σ H Q I h => ?_⟩
  refine PySem.W.methodCall_KW (pl := pl) (thn (he.run pins s σ H _ I h) fun u s1 ⟨x, H1, I1, rx, a, dx, fs, ex, ea, l, q⟩ => ?_) ht
  subst ex
  obtain rfl : u = Value.ref a := rx
  refine getmeth_ok I1 ea c hm l ?_
  exact PySem.W.callWith_K0 (first := [.ref a]) I1.kIn hm.kp (run_fnS (us := [.ref a]) (vs := [.ref a]) F hr hb (hx σ) I1 (.cons rfl .nil) q)
end
def dMeth (C m : Str) (S : FS) (t : DTE) (ta : DTA) : DTE := fun ρ Q E => t ρ (fun d ρ1 => match d with
  | .ins C' fs => C' = C ∧ fs.lookup m = none ∧ ta ρ1 (fun ds ρ2 => ∃ a : S.α, .ins C' fs :: ds = S.args a ∧ S.pre a ∧ Ends2 (S.out a) (fun r => Q r ρ2) fun c => E c ρ2) E
  | _ => False) E
def dNilA : DTA := fun ρ Q _ => Q [] ρ
theorem sn_nilA {K : Frg} {W : WX} : SndA K W tNil dNilA := fun H0 A0 A σ H ρ Q E Qr x ht q e => q [] ρ [] H A x.afe Reps.nil ht
section
variable {K : Frg} {W : WX} {S : FS} {ta : TA} {da : DTA} {te : TE} {t : DTE} {C m : Str}
theorem sn_meth (h : SndE K W te t) (ha : SndA K W ta da) : SndE K W (tMethS (He.ga K C) m (spD K false S) (WE W) te ta) (dMeth C m S t da) := fun H0 A0 A σ H ρ Q E Qr x ht q e =>
  h H0 A0 A σ H ρ _ E _ x ht (fun d ρ1 v H1 A1 af1 r1 hq => by
    cases d with
    | ins C' fs =>
      obtain ⟨rfl, hl, hq⟩ := hq
      have r1' := r1
      unfold Rep at r1
      obtain ⟨a, dx, gs, rfl, s, rf⟩ := r1
      refine ⟨a, dx, gs, rfl, le_hide.ins s, rf.lookN hl, ?_⟩
      refine ha H0 A0 A1 σ H1 ρ1 _ E _ af1.ok hq (fun ds ρ2 vs H2 A2 af2 r hq => ?_) fun c ρ' H' A' af he => e c ρ' H' A' (af1.trans af) he
      have af := af1.trans af2
      obtain ⟨b, ea, hp, hq⟩ := hq
      refine ⟨b, A2, af.ok.al, ?_, hp, ?_⟩
      · rw [← ea]
        exact Reps.cons (r1'.mono af2.go.le) r
      · unfold Ends2 at hq ⊢
        split at hq
        · exact fun v H' g post => q _ ρ2 v H' A2 (af.more g) post hq
        · exact fun H' g => e _ ρ2 H' A2 (af.more g) hq
    | _ => exact hq.elim) e
theorem sn_methF (h : SndE K W te t) (ha : SndA K W ta da) : SndF K W (tMethS (He.ga K C) m (spD K true S) (WE W) te ta) (dMeth C m S t da) := fun H0 A0 A σ H ρ Q E Qr x ht q e =>
  h H0 A0 A σ H ρ _ E _ x ht (fun d ρ1 v H1 A1 af1 r1 hq => by
    cases d with
    | ins C' fs =>
      obtain ⟨rfl, hl, hq⟩ := hq
      have r1' := r1
      unfold Rep at r1
      obtain ⟨a, dx, gs, rfl, s, rf⟩ := r1
      refine ⟨a, dx, gs, rfl, le_hide.ins s, rf.lookN hl, ?_⟩
      refine ha H0 A0 A1 σ H1 ρ1 _ E _ af1.ok hq (fun ds ρ2 vs H2 A2 af2 r hq => ?_) fun c ρ' H' A' af he => e c ρ' H' A' (af1.trans af) he
      have af := af1.trans af2
      obtain ⟨b, ea, hp, hq⟩ := hq
      refine ⟨b, A2, af.ok.al, ?_, hp, ?_⟩
      · rw [← ea]
        exact Reps.cons (r1'.mono af2.go.le) r
      · unfold Ends2 at hq ⊢
        split at hq
        · rintro v H' g ⟨p, rfl, hp, own⟩
          obtain ⟨x', g'⟩ := af.ok.callF g hp (own_some own)
          exact q _ ρ2 p H' (p :: A2) ⟨x', af.go.trans g', af.gf.trans g⟩ List.mem_cons_self (af.ok.noA0 hp) (af.ok.noSlot (af.ok.noA hp)) own hq
        · exact fun H' g => e _ ρ2 H' A2 (af.more g) hq
    | _ => exact hq.elim) e
end
/-- one way or another -/
def dOr (t u : DTE) : DTE := fun ρ Q E => t ρ Q E ∨ u ρ Q E
def tOr (t u : TE) : TE := fun σ H Q => t σ H Q ∨ u σ H Q
theorem de_orW {X : Cx} {W : WX} {e : Expr} {te ue : TE} {t u : DTE} (h1 : DE X W e te t) (h2 : DE X W e ue u) : DE X W e (tOr te ue) (dOr t u) :=
  ⟨⟨fun pins s σ H Q I h => h.elim (h1.pe.run pins s σ H Q I) (h2.pe.run pins s σ H Q I)⟩, fun H0 A0 A σ H ρ Q E Qr x ht q e => ht.elim (fun ht => .inl (h1.sn H0 A0 A σ H ρ Q E Qr x ht q e)) fun ht => .inr (h2.sn H0 A0 A σ H ρ Q E Qr x ht q e)⟩
theorem df_orW {X : Cx} {W : WX} {e : Expr} {te ue : TE} {t u : DTE} (h1 : DF X W e te t) (h2 : DF X W e ue u) : DF X W e (tOr te ue) (dOr t u) :=
  ⟨⟨fun pins s σ H Q I h => h.elim (h1.pe.run pins s σ H Q I) (h2.pe.run pins s σ H Q I)⟩, fun H0 A0 A σ H ρ Q E Qr x ht q e => ht.elim (fun ht => .inl (h1.sn H0 A0 A σ H ρ Q E Qr x ht q e)) fun ht => .inr (h2.sn H0 A0 A σ H ρ Q E Qr x ht q e)⟩
section
variable {X : Cx} {W : WX} {S : FS} {e o : Expr} {es : List Expr} {to : TE} {d : DTE} {ta : TA} {da : DTA} {apos pos : Pos} {C m : Str} {k : Nat}
theorem de_meth {pl : Sem Bool} (G : GMt X.prog X.w X.K X.mg X.base C m k false S) (hr : Room k X.A) (tk : Takes X W) (ho : DE X W o to d) (ha : DA X W (e :: es) ta da)
    (hst : starEach (e :: es) X.env = (false, eval e X.env) :: starEach es X.env := by rfl) (hpl : (backTo pos (starEach es X.env)).any (·.1) = false := by rfl)
    (ht : eval (.Call (.Attribute o m apos) (e :: es) [] pos) X.env = (do
      let ov ← eval o X.env
      standAt apos.atName
      let (f, first) ← holding [ov] (getMethod ov m pl)
      callWith pos f first (backTo pos (starEach (e :: es) X.env)) (backToKw pos (keywordEach [] X.env))) := by rfl) :
    DE X W (.Call (.Attribute o m apos) (e :: es) [] pos) (tMethS (He.ga X.K C) m (spD X.K false S) (WE W) to ta) (dMeth C m S d da) := by
  obtain ⟨f, fd, ps, c, hm, F, hb⟩ := G
  exact ⟨pe_methS ho.pe c hm F hr hb (passAt tk) ha.pe hst hpl ht, sn_meth ho.sn ha.sn⟩
theorem df_meth {pl : Sem Bool} (G : GMt X.prog X.w X.K X.mg X.base C m k true S) (hr : Room k X.A) (tk : Takes X W) (ho : DE X W o to d) (ha : DA X W (e :: es) ta da)
    (hst : starEach (e :: es) X.env = (false, eval e X.env) :: starEach es X.env := by rfl) (hpl : (backTo pos (starEach es X.env)).any (·.1) = false := by rfl)
    (ht : eval (.Call (.Attribute o m apos) (e :: es) [] pos) X.env = (do
      let ov ← eval o X.env
      standAt apos.atName
      let (f, first) ← holding [ov] (getMethod ov m pl)
      callWith pos f first (backTo pos (starEach (e :: es) X.env)) (backToKw pos (keywordEach [] X.env))) := by rfl) :
    DF X W (.Call (.Attribute o m apos) (e :: es) [] pos) (tMethS (He.ga X.K C) m (spD X.K true S) (WE W) to ta) (dMeth C m S d da) := by
  obtain ⟨f, fd, ps, c, hm, F, hb⟩ := G
  exact ⟨pe_methS ho.pe c hm F hr hb (passAt tk) ha.pe hst hpl ht, sn_methF ho.sn ha.sn⟩
theorem de_meth0 {pl : Sem Bool} (G : GMt X.prog X.w X.K X.mg X.base C m k false S) (hr : Room k X.A) (tk : Takes X W) (ho : DE X W o to d)
    (ht : eval (.Call (.Attribute o m apos) [] [] pos) X.env = (do
      let ov ← eval o X.env
      standAt apos.atName
      let (f, first) ← holding [ov] (getMethod ov m pl)
      callWith pos f first (backTo pos (starEach [] X.env)) (backToKw pos (keywordEach [] X.env))) := by rfl) :
    DE X W (.Call (.Attribute o m apos) [] [] pos) (tMethS (He.ga X.K C) m (spD X.K false S) (WE W) to tNil) (dMeth C m S d dNilA) := by
  obtain ⟨f, fd, ps, c, hm, F, hb⟩ := G
  exact ⟨pe_methS0 ho.pe c hm F hr hb (passAt tk) ht, sn_meth ho.sn sn_nilA⟩
theorem df_meth0 {pl : Sem Bool} (G : GMt X.prog X.w X.K X.mg X.base C m k true S) (hr : Room k X.A) (tk : Takes X W) (ho : DE X W o to d)
    (ht : eval (.Call (.Attribute o m apos) [] [] pos) X.env = (do
      let ov ← eval o X.env
      standAt apos.atName
      let (f, first) ← holding [ov] (getMethod ov m pl)
      callWith pos f first (backTo pos (starEach [] X.env)) (backToKw pos (keywordEach [] X.env))) := by rfl) :
    DF X W (.Call (.Attribute o m apos) [] [] pos) (tMethS (He.ga X.K C) m (spD X.K true S) (WE W) to tNil) (dMeth C m S d dNilA) := by
  obtain ⟨f, fd, ps, c, hm, F, hb⟩ := G
  exact ⟨pe_methS0 ho.pe c hm F hr hb (passAt tk) ht, sn_methF ho.sn sn_nilA⟩
end
/-! ### an __init__ keeps its promise -/
def istart (N : List Str) (C : Str) (ds : List D) : DEnv := .ow (.ins C []) :: dstart N.tail ds
theorem EnvOk.cons {K : Frg} {H0 H : Hp} {A0 : Bs} {A : List Addr} {σ : L2.St} {ρ : DEnv} {p : Addr} {d : D} (x : EnvOk K H0 A0 A σ H ρ) (hp : p ∈ A) (h0 : p ∉ A0) (ns : NoSlot σ ρ p) (r : Own K A H d p) : EnvOk K H0 ⟨A0.l, some p⟩ A (some (.ref p) :: σ) H (.ow d :: ρ) where
  me := fun q e d' h => by cases e; rfl
  len := by simp [x.len]
  go0 := x.go0
  go1 := x.go1
  sub := x.sub
  al := x.al
  fr0 := x.fr0
  sh := fun j e h => by
    cases j with
    | zero => simp at h
    | succ j => simpa using x.sh j e (by simpa using h)
  ow := fun j e h => by
    cases j with
    | zero =>
      have e' : d = e := by simpa using h
      subst e'
      exact ⟨p, by simp, hp, h0, r⟩
    | succ j =>
      obtain ⟨a, e1, m1, n1, r1⟩ := x.ow j e (by simpa using h)
      exact ⟨a, by simpa using e1, m1, n1, r1⟩
  nd := fun j k d' e' b h1 h2 h3 h4 => by
    cases j with
    | zero =>
      cases k with
      | zero => rfl
      | succ k =>
        have hb : p = b := by simpa using h3
        subst hb
        exact absurd (by simpa using h4) (ns k e' (by simpa using h2))
    | succ j =>
      cases k with
      | zero =>
        have hb : p = b := by simpa using h4
        subst hb
        exact absurd (by simpa using h3) (ns j d' (by simpa using h1))
      | succ k => exact congrArg _ (x.nd j k d' e' b (by simpa using h1) (by simpa using h2) (by simpa using h3) (by simpa using h4))
theorem istart_ok {K : Frg} {H : Hp} {A : List Addr} {N : List Str} {C : Str} {ds : List D} {vs : List V} {x dx : Addr} (al : ∀ b ∈ A, ∃ o, H b = some o) (r : Reps K (hide A H) ds vs) (hx : H x = none) (hdx : H dx = none) :
    EnvOk K H ⟨A, some x⟩ (x :: A) (L2.start N (.ref x :: vs)) (upd (upd H dx (.own x)) x (.ins (He.ga K C) dx [])) (istart N C ds) := by
  have e : L2.start N (.ref x :: vs) = some (.ref x) :: L2.start N.tail vs := by
    unfold L2.start
    simp [Nat.sub_sub, Nat.add_comm]
  have x1 := start_ok (N := N.tail) al r
  obtain ⟨x2, _⟩ := x1.callF (made_go (u := .own x) (w := .ins (He.ga K C) dx []) hx hdx) hx ⟨_, upd_same⟩
  rw [e]
  unfold istart
  refine x2.cons List.mem_cons_self (x1.noA hx) (fun i d h1 h2 => ?_) ⟨dx, [], upd_same, by unfold RepsF; rfl⟩
  have z := x1.noSlot (x1.noA hx)
  exact z i d h1 h2
section
variable {P : Program} {w : World} {K : PySem.W.Frag} {mg : Str → Option Value} {base : Heap} {x qual : Str} {params : Arguments} {body : List Stmt} {scope : Scope} {f : Addr} {fd : FuncData}
theorem init_okD {N ps : List Str} {k : Nat} {C : Str} {S : FS} {t : DTS} (F : FunD K x qual params body scope [] [] f fd) (Sc : FnScope N ps scope) (len : ∀ a, (S.args a).length + 1 = ps.length)
    (hbody : ∀ (cdv : Value) (A : Around) (outer : List Env) (s : Shared) (H : Hp) (E : XK), Room k (A.deeper (envOfC qual scope s.heap.objs.size f cdv)) →
      Takes (cxOf (L2.CX P w) P w K mg base N qual scope f cdv A outer s H E) (WD E) → PassesOwn (model P w) (A.deeper (envOfC qual scope s.heap.objs.size f cdv)) (envOfC qual scope s.heap.objs.size f cdv) (cxOf (L2.CX P w) P w K mg base N qual scope f cdv A outer s H E).xe →
      ∃ ts, DSs (cxOf (L2.CX P w) P w K mg base N qual scope f cdv A outer s H E) (WD E) false body ts t)
    (hm : ∀ a, S.pre a → t { nx := fun ρ => ∃ d, nth ρ 0 = .ow d ∧ S.out a = .ok d, rt := fun _ => False, ex := fun c _ => S.out a = .error c } (istart N C (S.args a))) :
    FnOk P w K mg base (L2.CX P w) (k + 1) f fd ps (spI K C S) := by
  refine F.ok Sc (fun vs H Q E h => ?_) fun cdv A outer s H vs Q E hr h => ?_
  · obtain ⟨a, A, H0, x, dx, vs', rfl, _, _, _, _, al, r, _⟩ := h
    rw [← len a, List.length_cons, r.length]
  · obtain ⟨a, B, H0, x, dx, vs', rfl, hx, hdx, hne, rfl, al, r, hp, hq⟩ := h
    obtain ⟨ts, hts⟩ := hbody cdv A outer s _ E hr (takes_of rfl rfl rfl rfl) (passes_of rfl)
    refine ⟨ts, hts.ps, hts.sn H0 ⟨B, some x⟩ (x :: B) _ _ _ _ _ (istart_ok al r hx hdx) (hm a hp) ⟨fun ρ' σ' H' A' af h => ?_, fun d ρ' σ' v H' A' af hF hN h => h.elim, fun _ _ _ _ _ h => h.elim, fun _ _ _ _ _ h => h.elim, fun c ρ' σ' H' A' af h => ?_⟩⟩
    · obtain ⟨d, hn, ho⟩ := h
      unfold Ends2 at hq
      rw [ho] at hq
      obtain ⟨y, ey, my, ny, own⟩ := af.ok.ow 0 d (nth_ow hn)
      have e2 := af.ok.me x rfl d (nth_ow hn)
      rw [ey] at e2
      cases e2
      refine hq H' af.ok.go0 (own.at rfl (go_hide_sub fun b m => ?_))
      rcases List.mem_cons.mp m with rfl | m
      · exact my
      · exact af.ok.sub b m
    · unfold Ends2 at hq
      rw [h] at hq
      exact hq H' af.ok.go0
end
end DL

end

section
/-! The D layer, 8: errors, texts' methods, isinstance, list comprehensions. -/
namespace DL
open PySem PySem.Spec PyProof.Rows L2
/-! ### canonical readings -/
def tOf (K : Frg) (W : WX) (fr : Bool) (db : DTS) : TS := fun D σ H => ∃ (H0 : Hp) (A0 : Bs) (A : List Addr) (ρ : DEnv) (DD : DEnds), EnvOk K H0 A0 A σ H ρ ∧ db DD ρ ∧ Lift K W fr H0 A0 A H DD D
theorem ss_of {K : Frg} {W : WX} {fr : Bool} {db : DTS} : SndS K W fr (tOf K W fr db) db := fun H0 A0 A σ H ρ DD D x ht l => ⟨H0, A0, A, ρ, DD, x, ht, l⟩
theorem DSs.canon {X : Cx} {W : WX} {fr : Bool} {st : List Stmt} {ts : TS} {db : DTS} (h : DSs X W fr st ts db) : DSs X W fr st (tOf X.K W fr db) db :=
  ⟨⟨fun pins s σ H D I ⟨H0, A0, A, ρ, DD, x, ht, l⟩ => h.ps.run pins s σ H D I (h.sn H0 A0 A σ H ρ DD D x ht l)⟩, ss_of⟩
def teOf (K : Frg) (W : WX) (de : DTE) : TE := fun σ H Q => ∃ (H0 : Hp) (A0 : Bs) (A : List Addr) (ρ : DEnv) (Q' : D → DEnv → Prop) (E : XD), EnvOk K H0 A0 A σ H ρ ∧ de ρ Q' E ∧
  (∀ d ρ' v H' A', AfE K H0 A0 A H A' σ H' ρ' → Rep K (hide A' H') d v → Q' d ρ' → Q v H') ∧ (∀ c ρ' H' A', AfE K H0 A0 A H A' σ H' ρ' → E c ρ' → W (.ref (He.ga K c)) none σ H')
theorem DE.canon {X : Cx} {W : WX} {e : Expr} {te : TE} {de : DTE} (h : DE X W e te de) : DE X W e (teOf X.K W de) de :=
  ⟨⟨fun pins s σ H Q I ⟨H0, A0, A, ρ, Q', E, x, ht, q, l⟩ => h.pe.run pins s σ H Q I (h.sn H0 A0 A σ H ρ Q' E Q x ht q l)⟩, fun H0 A0 A σ H ρ Q E Qr x ht q e => ⟨H0, A0, A, ρ, Q, E, x, ht, q, e⟩⟩
def ttOf (K : Frg) (W : WX) (de : DTT) : TT := fun σ H Q => ∃ (H0 : Hp) (A0 : Bs) (A : List Addr) (ρ : DEnv) (Q' : Bool → DEnv → Prop) (E : XD), EnvOk K H0 A0 A σ H ρ ∧ de ρ Q' E ∧
  (∀ d ρ' v H' A', AfE K H0 A0 A H A' σ H' ρ' → v = d → Q' d ρ' → Q v H') ∧ (∀ c ρ' H' A', AfE K H0 A0 A H A' σ H' ρ' → E c ρ' → W (.ref (He.ga K c)) none σ H')
theorem DT.canon {X : Cx} {W : WX} {e : Expr} {te : TT} {de : DTT} (h : DT X W e te de) : DT X W e (ttOf X.K W de) de :=
  ⟨⟨fun pins s σ H Q I ⟨H0, A0, A, ρ, Q', E, x, ht, q, l⟩ => h.pe.run pins s σ H Q I (h.sn H0 A0 A σ H ρ Q' E Q x ht q l)⟩, fun H0 A0 A σ H ρ Q E Qr x ht q e => ⟨H0, A0, A, ρ, Q, E, x, ht, q, e⟩⟩
abbrev WF : WX := fun _ _ _ _ => False
/-! ### raise -/
def dRaise (c : Str) : DTS := fun DD ρ => DD.ex c ρ
theorem ds_raise {X : Cx} {W : WX} {fr : Bool} {x m : Str} {j : Nat} {p p2 pos pos' : Pos} (hc : X.calm = true) (tk : Takes X W) (hx : (He.Fa.exc x).ok X.K = true) (hm : X.mg x = some (.ref (He.ga X.K x))) (hg : Gl X x := by rfl)
    (hdb : (x == ("__debug__" : Str)) = false := by decide) : DS X W fr (.Raise (some (.Call (.Name x p) [.Constant (.str m) j p2] [] pos)) none pos') (fun _ σ H => W (.ref (He.ga X.K x)) none σ H) (dRaise x) := by
  obtain ⟨h1, h2, h3, h4⟩ := He.exc_ok hx
  exact ⟨ps_raise hc tk (pmk_own PySem.F.excBase_ValueError h1 hm h2 (raises_own h3 h4) hg hdb), fun H0 A0 A σ H ρ DD D x ht l => l.ex _ ρ σ H A x.aft ht⟩
/-! ### try .. except X -/
def dTry (tbl : List (Str × Bool)) (db ds : DTS) : DTS := fun DD ρ => db { DD with ex := fun c' ρ' => match tbl.lookup c' with
  | some true => ds { DD with ex := fun _ _ => False } ρ'
  | some false => DD.ex c' ρ'
  | none => False } ρ
theorem mem_of_lookup {α β : Type} [BEq α] [LawfulBEq α] : ∀ {l : List (α × β)} {a : α} {b : β}, l.lookup a = some b → (a, b) ∈ l
  | [], _, _, h => nomatch h
  | (k, v) :: r, a, b, h => by
    rw [List.lookup_cons] at h
    cases q : (a == k) with
    | true =>
      rw [q] at h
      have e : v = b := Option.some.inj h
      rw [e, eq_of_beq q]
      exact List.mem_cons_self
    | false =>
      rw [q] at h
      exact List.mem_cons_of_mem _ (mem_of_lookup h)
theorem ds_try {X : Cx} {W : WX} {fr : Bool} {x : Str} {tbl : List (Str × Bool)} {body suite : List Stmt} {b₀ : Stmt} {np pos pos' : Pos} {db ds : DTS} (tk : Takes X W) (hg : Gl X x) (hm : X.mg x = some (.ref (He.ga X.K x)))
    (ht : ∀ p ∈ tbl, PySem.W.exmOne X.K (.ref (He.ga X.K p.1)) (.ref (He.ga X.K x)) = some p.2)
    (hb : ∀ (W' : WX) (pn : List (Addr × Obj)) (xe : Value → Shared → Prop), Takes (X.tr pn xe) W' → PassesOwn (model X.prog X.w) X.A X.env xe → ∃ ts, DSs (X.tr pn xe) W' fr body ts db)
    (hsu : ∀ (a : Addr) (oe : Obj) (cls : Value) (d : Option Addr) (pn : List (Addr × Obj)), ∃ ts, DSs (X.suite a ((a, oe) :: pn)) WF fr (b₀ :: suite) ts ds)
    (hs : X.stack = X.env :: X.outer := by rfl) (hf : X.env.frame = some X.env.locals := by rfl) (hdb : (x == ("__debug__" : Str)) = false := by decide) :
    DS X W fr (.Try body [.ExceptHandler (some (.Name x np)) none (b₀ :: suite) pos'] [] [] pos)
      (fun D σ H => tOf X.K (wOnly X.K (.ref (He.ga X.K x)) (fun _ _ _ => tOf X.K WF fr ds) W D) fr db D σ H) (dTry tbl db ds) :=
  ⟨ps_try_only (tb := fun W' => tOf X.K W' fr db) (ts := fun _ _ _ => tOf X.K WF fr ds) hs hf ⟨hg, hdb, .inl hm⟩ tk (fun W' pn xe tk' hp => let ⟨ts, h⟩ := hb W' pn xe tk' hp; h.canon.ps) (fun a oe cls d pn _ _ => let ⟨ts, h⟩ := hsu a oe cls d pn; h.canon.ps),
   fun H0 A0 A σ H ρ DD D xx hd l => ss_of H0 A0 A σ H ρ _ D xx hd ⟨l.nx, l.rt, l.bk, l.ct, fun c ρ' σ' H' A' af he => by
     have he : (match tbl.lookup c with
       | some true => ds { DD with ex := fun _ _ => False } ρ'
       | some false => DD.ex c ρ'
       | none => False) := he
     cases q : tbl.lookup c with
     | none => rw [q] at he; exact he.elim
     | some b =>
       rw [q] at he
       refine ⟨b, ht (c, b) (mem_of_lookup q), fun e a _ => ?_, fun e => ?_⟩
       · subst e
         exact ss_of H0 A0 A' σ' H' ρ' { DD with ex := fun _ _ => False } D af.ok he ⟨(l.from af).nx, (l.from af).rt, (l.from af).bk, (l.from af).ct, fun _ _ _ _ _ _ z => z.elim⟩
       · subst e
         exact l.ex c ρ' σ' H' A' af he⟩⟩
/-! ### methods of texts -/
abbrev OpM := D → List D → (D → Prop) → Prop
def MtS (K : Frg) (r : V → List V → Hp → VK → Prop) (op : OpM) : Prop := ∀ (B : List Addr) (H : Hp) (v : V) (vs : List V) (d : D) (ds : List D) (P : D → Prop) (Q : VK), (∀ p, H p = none → p ∉ B) → RepB K B H d v → RepBs K B H ds vs → op d ds P →
  (∀ c z H', Go H H' → Rep K (hide B H') c z → P c → Q z H') → r v vs H Q
def dBM (op : OpM) (t : DTE) (ta : DTA) : DTE := fun ρ Q E => t ρ (fun d ρ1 => match d with
  | .str z => ta ρ1 (fun ds ρ2 => op (.str z) ds fun c => Q c ρ2) E
  | _ => False) E
theorem sn_bm {K : Frg} {W : WX} {r : V → List V → Hp → VK → Prop} {op : OpM} {te : TE} {t : DTE} {ta : TA} {da : DTA} (h : SndB K W te t) (ha : SndAB K W ta da) (hr : MtS K r op) : SndE K W (tBM K "str" r te ta) (dBM op t da) :=
  fun H0 A0 A σ H ρ Q E Qr x ht q e => h H0 A0 A σ H ρ _ E _ x ht (fun d ρ1 v H1 A1 af1 r1 hq => by
    cases d with
    | str z =>
      cases repb_str r1
      refine ⟨rfl, ha H0 A0 A1 σ H1 ρ1 _ E _ af1.ok hq (fun ds ρ2 vs H2 A2 af2 r2 hq2 => ?_) fun c ρ' H' A' af he => e c ρ' H' A' (af1.trans af) he⟩
      exact hr A2 H2 _ vs _ ds _ _ (fun p hp => af2.ok.noA hp) (Rep.b rep_str) r2 hq2 fun c z H3 g r3 hc => q c ρ2 z H3 A2 ((af1.trans af2).more g) r3 hc
    | _ => exact hq.elim) e
theorem sn_bm0 {K : Frg} {W : WX} {r : V → List V → Hp → VK → Prop} {op : OpM} {te : TE} {t : DTE} (h : SndB K W te t) (hr : MtS K r op) : SndE K W (tBM0 K "str" r te) (dBM op t dNilA) :=
  fun H0 A0 A σ H ρ Q E Qr x ht q e => h H0 A0 A σ H ρ _ E _ x ht (fun d ρ1 v H1 A1 af1 r1 hq => by
    cases d with
    | str z =>
      cases repb_str r1
      exact ⟨rfl, hr A1 H1 _ [] _ [] _ _ (fun p hp => af1.ok.noA hp) (Rep.b rep_str) rfl hq fun c z H3 g r3 hc => q c ρ1 z H3 A1 (af1.more g) r3 hc⟩
    | _ => exact hq.elim) e
section
variable {K : Frg}
def startswithD : OpM
  | .str a, [.str b], P => P (.bl (Txt.startswith a b))
  | _, _, _ => False
theorem mts_startswith : MtS K (fun x xs H Q => ∃ a b, x = .str a ∧ xs = [.str b] ∧ Q (.bl (Txt.startswith a b)) H) startswithD := fun B H v vs d ds P Q nb rv rs hop k => by
  unfold startswithD at hop
  split at hop
  · cases repb_str rv
    obtain ⟨w, rfl, h⟩ := bs1 rs
    cases repb_str h
    exact ⟨_, _, rfl, rfl, k _ _ H (Go.refl _) rep_bl hop⟩
  · exact hop.elim
def endswithD : OpM
  | .str a, [.str b], P => P (.bl (Txt.endswith a b))
  | _, _, _ => False
theorem mts_endswith : MtS K (fun x xs H Q => ∃ a b, x = .str a ∧ xs = [.str b] ∧ Q (.bl (Txt.endswith a b)) H) endswithD := fun B H v vs d ds P Q nb rv rs hop k => by
  unfold endswithD at hop
  split at hop
  · cases repb_str rv
    obtain ⟨w, rfl, h⟩ := bs1 rs
    cases repb_str h
    exact ⟨_, _, rfl, rfl, k _ _ H (Go.refl _) rep_bl hop⟩
  · exact hop.elim
def findD : OpM
  | .str a, [.str b], P => P (.int (Txt.find a b))
  | _, _, _ => False
theorem mts_find : MtS K (fun x xs H Q => ∃ a b, x = .str a ∧ xs = [.str b] ∧ Q (.int (Txt.find a b)) H) findD := fun B H v vs d ds P Q nb rv rs hop k => by
  unfold findD at hop
  split at hop
  · cases repb_str rv
    obtain ⟨w, rfl, h⟩ := bs1 rs
    cases repb_str h
    exact ⟨_, _, rfl, rfl, k _ _ H (Go.refl _) rep_int hop⟩
  · exact hop.elim
def isdigitD : OpM
  | .str a, [], P => P (.bl (Txt.isdigit a))
  | _, _, _ => False
theorem mts_isdigit : MtS K (fun x xs H Q => ∃ a, x = .str a ∧ xs = [] ∧ True ∧ Q (.bl (Txt.isdigit a)) H) isdigitD := fun B H v vs d ds P Q nb rv rs hop k => by
  unfold isdigitD at hop
  split at hop
  · cases repb_str rv
    cases rs
    exact ⟨_, rfl, rfl, trivial, k _ _ H (Go.refl _) rep_bl hop⟩
  · exact hop.elim
def splitD : OpM
  | .str a, [.str b], P => (b.length == 0) = false ∧ a.length + 2 ≤ sizeLine ∧ P (.lst ((Txt.split a b).map D.str))
  | _, _, _ => False
theorem mts_split : MtS K (fun x xs H Q => ∃ a b, x = .str a ∧ xs = [.str b] ∧ (b.length == 0) = false ∧ a.length + 2 ≤ sizeLine ∧ rNewStrs (Txt.split a b) H Q) splitD := fun B H v vs d ds P Q nb rv rs hop k => by
  unfold splitD at hop
  split at hop
  · cases repb_str rv
    obtain ⟨w, rfl, h⟩ := bs1 rs
    cases repb_str h
    exact ⟨_, _, rfl, rfl, hop.1, hop.2.1, fun p hp => k _ _ _ (go_new hp) (rep_newL hp (nb p hp) reps_strs) hop.2.2⟩
  · exact hop.elim
def partitionD : OpM
  | .str a, [.str b], P => (b.length == 0) = false ∧ a.length ≤ sizeLine ∧ P (.tup [.str (Txt.partition a b).1, .str (Txt.partition a b).2.1, .str (Txt.partition a b).2.2])
  | _, _, _ => False
theorem mts_partition : MtS K (fun x xs H Q => ∃ a b, x = .str a ∧ xs = [.str b] ∧ (b.length == 0) = false ∧ a.length ≤ sizeLine ∧
    ∀ p, H p = none → Q (.ref p) (upd H p (.tup [.str (Txt.partition a b).1, .str (Txt.partition a b).2.1, .str (Txt.partition a b).2.2]))) partitionD := fun B H v vs d ds P Q nb rv rs hop k => by
  unfold partitionD at hop
  split at hop
  · cases repb_str rv
    obtain ⟨w, rfl, h⟩ := bs1 rs
    cases repb_str h
    exact ⟨_, _, rfl, rfl, hop.1, hop.2.1, fun p hp => k _ _ _ (go_new hp) (rep_newT hp (nb p hp) (Reps.cons rep_str (Reps.cons rep_str (Reps.cons rep_str Reps.nil)))) hop.2.2⟩
  · exact hop.elim
def joinD : OpM := fun d ds P => ∃ (a : Str) (ys : List Str), d = .str a ∧ (ds = [.lst (ys.map D.str)] ∨ ds = [.tup (ys.map D.str)]) ∧ (ys.map (·.length)).sum + ys.length * a.length ≤ 16777216 ∧ P (.str (Txt.join a ys))
theorem mts_join : MtS K (fun x xs H Q => ∃ a p, ∃ ys : List Str, x = .str a ∧ xs = [.ref p] ∧ (SqL K H p (ys.map V.str) ∨ SqT K H p (ys.map V.str)) ∧
    (ys.map (·.length)).sum + ys.length * a.length ≤ 16777216 ∧ Q (.str (Txt.join a ys)) H) joinD := fun B H v vs d ds P Q nb rv rs hop k => by
  obtain ⟨a, ys, rfl, e, hl, hq⟩ := hop
  cases repb_str rv
  rcases e with rfl | rfl
  · obtain ⟨w, rfl, h⟩ := bs1 rs
    obtain ⟨p, xs, rfl, s, r⟩ := h
    rw [reps_strs_inv r] at s
    exact ⟨a, p, ys, rfl, rfl, .inl (.of s), hl, k _ _ H (Go.refl _) rep_str hq⟩
  · obtain ⟨w, rfl, h⟩ := bs1 rs
    obtain ⟨p, xs, rfl, s, r⟩ := h
    rw [reps_strs_inv r] at s
    exact ⟨a, p, ys, rfl, rfl, .inr s, hl, k _ _ H (Go.refl _) rep_str hq⟩
def lstripD : OpM
  | .str a, [], P => a.length ≤ sizeLine ∧ P (.str (Txt.lstrip a))
  | _, _, _ => False
theorem mts_lstrip : MtS K (fun x xs H Q => ∃ a, x = .str a ∧ xs = [] ∧ a.length ≤ sizeLine ∧ Q (.str (Txt.lstrip a)) H) lstripD := fun B H v vs d ds P Q nb rv rs hop k => by
  unfold lstripD at hop
  split at hop
  · cases repb_str rv
    cases rs
    exact ⟨_, rfl, rfl, hop.1, k _ _ H (Go.refl _) rep_str hop.2⟩
  · exact hop.elim
end
section
variable {X : Cx} {W : WX} {o e : Expr} {es : List Expr} {to : TE} {d : DTE} {ta : TA} {da : DTA} {name : Str} {apos cpos : Pos} {id : String} {r : V → List V → Hp → VK → Prop} {op : OpM}
theorem de_bm (slot : Slot "str" name id) (hty : typeOf (.builtin id) = pure (.type "method_descriptor")) (hm : MtR X id r) (hs : MtS X.K r op) (ho : DB X W o to d) (ha : DAB X W (e :: es) ta da)
    (hbase : attributeBase o name X.env (eval o X.env) = eval o X.env := by rfl)
    (hfew : ((backTo cpos (starEach (e :: es) X.env)).all (fun x => !x.1) && (backToKw cpos (keywordEach [] X.env)).all (fun x => x.1.isSome)
      && decide ((e :: es).length + ([] : List Keyword).length + (if ([] : List Keyword).isEmpty then 0 else 1) < 30)) = true := by rfl)
    (hline : (apos.endLine == cpos.line) = true := by rfl) (hst : starEach (e :: es) X.env = (false, eval e X.env) :: starEach es X.env := by rfl) (hplain : (backTo cpos (starEach es X.env)).any (·.1) = false := by rfl) :
    DE X W (.Call (.Attribute o name apos) (e :: es) [] cpos) (tBM X.K "str" r to ta) (dBM op d da) := ⟨pe_bm PySem.F.plainAttrs_str slot hty hm ho.pe ha.pe hbase hfew hline hst hplain, sn_bm ho.sn ha.sn hs⟩
theorem de_bm0 (slot : Slot "str" name id) (hty : typeOf (.builtin id) = pure (.type "method_descriptor")) (hm : MtR X id r) (hs : MtS X.K r op) (ho : DB X W o to d)
    (hbase : attributeBase o name X.env (eval o X.env) = eval o X.env := by rfl) (hline : (apos.endLine == cpos.line) = true := by rfl) :
    DE X W (.Call (.Attribute o name apos) [] [] cpos) (tBM0 X.K "str" r to) (dBM op d dNilA) := ⟨pe_bm0 PySem.F.plainAttrs_str slot hty hm ho.pe hbase hline, sn_bm0 ho.sn hs⟩
def de_split (ho : DB X W o to d) (ha : DAB X W [e] ta da) (hbase : attributeBase o "split" X.env (eval o X.env) = eval o X.env := by rfl) (hfew : ((backTo cpos (starEach (e :: []) X.env)).all (fun x => !x.1) && (backToKw cpos (keywordEach [] X.env)).all (fun x => x.1.isSome) && decide ((e :: ([] : List Expr)).length + ([] : List Keyword).length + (if ([] : List Keyword).isEmpty then 0 else 1) < 30)) = true := by rfl) (hline : (apos.endLine == cpos.line) = true := by rfl) (hst : starEach (e :: []) X.env = (false, eval e X.env) :: starEach [] X.env := by rfl) (hplain : (backTo cpos (starEach [] X.env)).any (·.1) = false := by rfl) :=
  de_bm (X := X) (W := W) PySem.F.slot_str_split PySem.F.type_str_split mt_split mts_split ho ha hbase hfew hline hst hplain
def de_partition (ho : DB X W o to d) (ha : DAB X W [e] ta da) (hbase : attributeBase o "partition" X.env (eval o X.env) = eval o X.env := by rfl) (hfew : ((backTo cpos (starEach (e :: []) X.env)).all (fun x => !x.1) && (backToKw cpos (keywordEach [] X.env)).all (fun x => x.1.isSome) && decide ((e :: ([] : List Expr)).length + ([] : List Keyword).length + (if ([] : List Keyword).isEmpty then 0 else 1) < 30)) = true := by rfl) (hline : (apos.endLine == cpos.line) = true := by rfl) (hst : starEach (e :: []) X.env = (false, eval e X.env) :: starEach [] X.env := by rfl) (hplain : (backTo cpos (starEach [] X.env)).any (·.1) = false := by rfl) :=
  de_bm (X := X) (W := W) PySem.F.slot_str_partition PySem.F.type_str_partition mt_partition mts_partition ho ha hbase hfew hline hst hplain
def de_join (ho : DB X W o to d) (ha : DAB X W [e] ta da) (hbase : attributeBase o "join" X.env (eval o X.env) = eval o X.env := by rfl) (hfew : ((backTo cpos (starEach (e :: []) X.env)).all (fun x => !x.1) && (backToKw cpos (keywordEach [] X.env)).all (fun x => x.1.isSome) && decide ((e :: ([] : List Expr)).length + ([] : List Keyword).length + (if ([] : List Keyword).isEmpty then 0 else 1) < 30)) = true := by rfl) (hline : (apos.endLine == cpos.line) = true := by rfl) (hst : starEach (e :: []) X.env = (false, eval e X.env) :: starEach [] X.env := by rfl) (hplain : (backTo cpos (starEach [] X.env)).any (·.1) = false := by rfl) :=
  de_bm (X := X) (W := W) PySem.F.slot_str_join PySem.F.type_str_join mt_join mts_join ho ha hbase hfew hline hst hplain
def de_startswith (ho : DB X W o to d) (ha : DAB X W [e] ta da) (hbase : attributeBase o "startswith" X.env (eval o X.env) = eval o X.env := by rfl) (hfew : ((backTo cpos (starEach (e :: []) X.env)).all (fun x => !x.1) && (backToKw cpos (keywordEach [] X.env)).all (fun x => x.1.isSome) && decide ((e :: ([] : List Expr)).length + ([] : List Keyword).length + (if ([] : List Keyword).isEmpty then 0 else 1) < 30)) = true := by rfl) (hline : (apos.endLine == cpos.line) = true := by rfl) (hst : starEach (e :: []) X.env = (false, eval e X.env) :: starEach [] X.env := by rfl) (hplain : (backTo cpos (starEach [] X.env)).any (·.1) = false := by rfl) :=
  de_bm (X := X) (W := W) PySem.F.slot_str_startswith PySem.F.type_str_startswith mt_startswith mts_startswith ho ha hbase hfew hline hst hplain
def de_endswith (ho : DB X W o to d) (ha : DAB X W [e] ta da) (hbase : attributeBase o "endswith" X.env (eval o X.env) = eval o X.env := by rfl) (hfew : ((backTo cpos (starEach (e :: []) X.env)).all (fun x => !x.1) && (backToKw cpos (keywordEach [] X.env)).all (fun x => x.1.isSome) && decide ((e :: ([] : List Expr)).length + ([] : List Keyword).length + (if ([] : List Keyword).isEmpty then 0 else 1) < 30)) = true := by rfl) (hline : (apos.endLine == cpos.line) = true := by rfl) (hst : starEach (e :: []) X.env = (false, eval e X.env) :: starEach [] X.env := by rfl) (hplain : (backTo cpos (starEach [] X.env)).any (·.1) = false := by rfl) :=
  de_bm (X := X) (W := W) PySem.F.slot_str_endswith PySem.F.type_str_endswith mt_endswith mts_endswith ho ha hbase hfew hline hst hplain
def de_find (ho : DB X W o to d) (ha : DAB X W [e] ta da) (hbase : attributeBase o "find" X.env (eval o X.env) = eval o X.env := by rfl) (hfew : ((backTo cpos (starEach (e :: []) X.env)).all (fun x => !x.1) && (backToKw cpos (keywordEach [] X.env)).all (fun x => x.1.isSome) && decide ((e :: ([] : List Expr)).length + ([] : List Keyword).length + (if ([] : List Keyword).isEmpty then 0 else 1) < 30)) = true := by rfl) (hline : (apos.endLine == cpos.line) = true := by rfl) (hst : starEach (e :: []) X.env = (false, eval e X.env) :: starEach [] X.env := by rfl) (hplain : (backTo cpos (starEach [] X.env)).any (·.1) = false := by rfl) :=
  de_bm (X := X) (W := W) PySem.F.slot_str_find PySem.F.type_str_find mt_find mts_find ho ha hbase hfew hline hst hplain
def de_isdigit (ho : DB X W o to d) (hbase : attributeBase o "isdigit" X.env (eval o X.env) = eval o X.env := by rfl) (hline : (apos.endLine == cpos.line) = true := by rfl) :=
  de_bm0 (X := X) (W := W) PySem.F.slot_str_isdigit PySem.F.type_str_isdigit mt_isdigit mts_isdigit ho hbase hline
end
/-! ### isinstance -/
/-- f tells the answer of a datum -/
def dIsi (f : D → Option Bool) (t : DTE) : DTE := fun ρ Q E => t ρ (fun d ρ1 => ∃ b, f d = some b ∧ Q (.bl b) ρ1) E
def IsiOk (K : Frg) (u : Value) (f : D → Option Bool) : Prop := ∀ (B : List Addr) (H : Hp) (d : D) (v : V) (b : Bool), RepB K B H d v → f d = some b → ∃ t, TyX K H v t ∧ PySem.W.kitOne K t u = some b
theorem sn_isi {K : Frg} {W : WX} {te : TE} {t : DTE} {f : D → Option Bool} {c : V} {u : Value} (h : SndB K W te t) (hf : IsiOk K u f) (hc : ClsV c u) : SndE K W (tCB (rIsi K) (tCons te (tCons (tC c) tNil))) (dIsi f t) :=
  fun H0 A0 A σ H ρ Q E Qr x ht q e => h H0 A0 A σ H ρ _ E _ x ht (fun d ρ1 v H1 A1 af1 r1 hq => by
    obtain ⟨b, hb, hq⟩ := hq
    obtain ⟨t, ty, k⟩ := hf A1 H1 d v b r1 hb
    exact ⟨v, c, t, u, b, rfl, hc, ty, k, q _ ρ1 _ H1 A1 af1 rep_bl hq⟩) e
/-- a built-in class -/
def tyD : D → Option String
  | .non => some "NoneType"
  | .bl _ => some "bool"
  | .int _ => some "int"
  | .str _ => some "str"
  | .tup _ => some "tuple"
  | .lst _ => some "list"
  | .dK _ => some "dict"
  | _ => none
def isiTy (T : String) (d : D) : Option Bool := (tyD d).bind fun t => kitB t T
theorem sqt_ty {K : Frg} {H : Hp} {a : Addr} {xs : List V} (h : SqT K H a xs) : TyX K H (.ref a) (.type "tuple") := by
  rcases h with h | ⟨_, _, _, hk, hc, _⟩
  · rcases h with h | ⟨o, h⟩
    · exact .base (.tup h)
    · exact .fTuple h
  · exact .kTuple hk hc
theorem isi_ty {K : Frg} {T : String} : IsiOk K (.type T) (isiTy T) := fun B H d v b r hb => by
  unfold isiTy at hb
  cases d with
  | non => cases repb_non r; exact ⟨_, .base .non, kit_ty hb⟩
  | bl z => cases repb_bl r; exact ⟨_, .base (.bl z), kit_ty hb⟩
  | int z => cases repb_int r; exact ⟨_, .base (.int z), kit_ty hb⟩
  | str z => cases repb_str r; exact ⟨_, .base (.str z), kit_ty hb⟩
  | tup ds => obtain ⟨a, xs, rfl, s, _⟩ := r; exact ⟨_, sqt_ty s, kit_ty hb⟩
  | lst ds => obtain ⟨a, xs, rfl, s, _⟩ := r; exact ⟨_, .base (.lst s), kit_ty hb⟩
  | dK ds =>
    obtain ⟨a, xs, rfl, s, _⟩ := r
    rcases s with s | ⟨o, s⟩
    · exact ⟨_, .base (.dK s), kit_ty hb⟩
    · exact ⟨_, .fDict s, kit_ty hb⟩
  | _ => cases hb
/-- an own class: what is told of instances -/
structure InsF (K : Frg) (C : Str) : Prop where
  cl : Cls K (He.ga K C)
  ha : PySem.W.findIn K (.ref (He.ga K C)) "__class__" = some (some (.builtin "object.__class__"))
  hn : PySem.W.specialIn K (.builtin "object.__class__") "__get__" = some (some (.builtin "getset_descriptor.__get__"))
  htk : PySem.W.takesIn K (.builtin "object.__class__") = some true
  hm : PySem.W.mroIn K (He.ga K C) (.type "object") = some true
def isiC (C : Str) : D → Option Bool
  | .ins C' _ => if C' = C then some true else none
  | _ => none
theorem isi_cls {K : Frg} {C : Str} (h : InsF K C) : IsiOk K (.ref (He.ga K C)) (isiC C) := fun B H d v b r hb => by
  unfold isiC at hb
  split at hb
  · split at hb
    · rename_i e
      subst e
      cases hb
      obtain ⟨a, dx, gs, rfl, s, _⟩ := r
      refine ⟨_, .base (.ins s h.cl h.ha h.hn h.htk h.hm), ?_⟩
      unfold PySem.W.kitOne
      rw [if_pos (beq_self_eq_true _)]
    · cases hb
  · cases hb
section
variable {X : Cx} {W : WX} {e : Expr} {te : TE} {d : DTE} {p p2 pos : Pos}
theorem de_isiTy {x : Str} {T : String} (hg : Gl X "isinstance") (hm : X.mg "isinstance" = none) (h : DB X W e te d) (hgx : Gl X x) (hmx : X.mg x = none) (hv : bootBuiltins x = some (.type T)) (hn : x ≠ "__name__" := by decide) (hdb : (x == ("__debug__" : Str)) = false := by decide)
    (he : starEach [e, .Name x p2] X.env = (false, eval e X.env) :: starEach [.Name x p2] X.env := by rfl) (hpl : (backTo pos (starEach [.Name x p2] X.env)).any (·.1) = false := by rfl) (hst : starEach [.Name x p2] X.env = [(false, eval (.Name x p2) X.env)] := by rfl) :
    DE X W (.Call (.Name "isinstance" p) [e, .Name x p2] [] pos) (tCB (rIsi X.K) (tCons te (tCons (tC (.ty T)) tNil))) (dIsi (isiTy T) d) :=
  ⟨pe_callB call_isi hg hm rfl (pa_cons h.pe (pa_cons (pe_bltn hgx hmx hv (v := .ty T) rfl hn hdb) pa_nil hst) he) (by decide) (by decide) he hpl, sn_isi h.sn isi_ty (.ty T)⟩
theorem de_isiC {C : Str} (hf : InsF X.K C) (hg : Gl X "isinstance") (hm : X.mg "isinstance" = none) (h : DB X W e te d) (hgx : Gl X C) (hmx : X.mg C = some (.ref (He.ga X.K C))) (hdb : (C == ("__debug__" : Str)) = false := by decide)
    (he : starEach [e, .Name C p2] X.env = (false, eval e X.env) :: starEach [.Name C p2] X.env := by rfl) (hpl : (backTo pos (starEach [.Name C p2] X.env)).any (·.1) = false := by rfl) (hst : starEach [.Name C p2] X.env = [(false, eval (.Name C p2) X.env)] := by rfl) :
    DE X W (.Call (.Name "isinstance" p) [e, .Name C p2] [] pos) (tCB (rIsi X.K) (tCons te (tCons (tC (.ref (He.ga X.K C))) tNil))) (dIsi (isiC C) d) :=
  ⟨pe_callB call_isi hg hm rfl (pa_cons h.pe (pa_cons (pe_glob hgx hmx (v := .ref (He.ga X.K C)) rfl hdb) pa_nil hst) he) (by decide) (by decide) he hpl, sn_isi h.sn (isi_cls hf) (.own _)⟩
end
end DL

end

section
/-! The D layer, 9: list comprehensions. -/
namespace DL
open PySem PySem.Spec PyProof.Rows L2
def wipeD (ρ : DEnv) : List Nat → DEnv
  | [] => ρ
  | v :: vs => (wipeD ρ vs).set v .em
def shOnly : Sl → Sl
  | .sh d => .sh d
  | _ => .em
def backD (ρ ρ' : DEnv) : List Nat → DEnv
  | [] => ρ'
  | v :: vs => (backD ρ ρ' vs).set v (shOnly (nth ρ v))
theorem EnvOk.wipe {K : Frg} {H0 H : Hp} {A0 : Bs} {A : List Addr} {σ : L2.St} {ρ : DEnv} (x : EnvOk K H0 A0 A σ H ρ) : ∀ vs : List Nat, EnvOk K H0 A0 A (wipe σ vs) H (wipeD ρ vs)
  | [] => x
  | v :: vs => (x.wipe vs).setEm
theorem wipe_get (σ : L2.St) (i : Nat) : ∀ vs : List Nat, (wipe σ vs)[i]? = if i ∈ vs then (σ[i]?).map (fun _ => none) else σ[i]?
  | [] => by simp [wipe]
  | v :: vs => by
    unfold wipe
    rw [List.getElem?_set]
    have ih := wipe_get σ i vs
    by_cases e : v = i
    · subst e
      rw [if_pos rfl, wipe_length]
      by_cases hl : v < σ.length
      · rw [if_pos hl, if_pos List.mem_cons_self, List.getElem?_eq_getElem hl]
        rfl
      · rw [if_neg hl, if_pos List.mem_cons_self, List.getElem?_eq_none (by omega)]
        rfl
    · rw [if_neg e, ih]
      by_cases h : i ∈ vs
      · rw [if_pos h, if_pos (List.mem_cons_of_mem _ h)]
      · rw [if_neg h, if_neg (by simp only [List.mem_cons, not_or]; exact ⟨fun z => e z.symm, h⟩)]
theorem wipe_set {σ : L2.St} {i : Nat} {w : Option V} {vs : List Nat} (h : i ∈ vs) : wipe (σ.set i w) vs = wipe σ vs := by
  apply List.ext_getElem?
  intro j
  rw [wipe_get, wipe_get]
  by_cases e : i = j
  · subst e
    rw [if_pos h, if_pos h, List.getElem?_set]
    by_cases hl : i < σ.length
    · rw [if_pos rfl, if_pos hl, List.getElem?_eq_getElem hl]; rfl
    · rw [if_pos rfl, if_neg hl, List.getElem?_eq_none (by omega)]
  · rw [List.getElem?_set_ne e]
theorem wipe_wipe {σ : L2.St} {vs : List Nat} : wipe (wipe σ vs) vs = wipe σ vs := by
  apply List.ext_getElem?
  intro j
  rw [wipe_get, wipe_get]
  by_cases h : j ∈ vs
  · rw [if_pos h, if_pos h]
    cases σ[j]? <;> rfl
  · rw [if_neg h, if_neg h]
/-- a target that stores only where vs says -/
def GKeeps (g : TG) (vs : List Nat) : Prop := ∀ (v : V) (σ : L2.St) (H : Hp) (Q Q' : L2.St → Hp → Prop), (∀ σ' H', wipe σ' vs = wipe σ vs → Q σ' H' → Q' σ' H') → g v σ H Q → g v σ H Q'
def GsKeeps (g : TGs) (vs : List Nat) : Prop := ∀ (v : List V) (σ : L2.St) (H : Hp) (Q Q' : L2.St → Hp → Prop), (∀ σ' H', wipe σ' vs = wipe σ vs → Q σ' H' → Q' σ' H') → g v σ H Q → g v σ H Q'
theorem gk_name {i : Nat} {vs : List Nat} (h : i ∈ vs) : GKeeps (gName i) vs := fun v σ H Q Q' k q => k _ _ (wipe_set h) q
theorem gk_nil {vs : List Nat} : GsKeeps gNil vs := fun v σ H Q Q' k q => ⟨q.1, k _ _ rfl q.2⟩
theorem gk_cons {g : TG} {gs : TGs} {vs : List Nat} (h1 : GKeeps g vs) (h2 : GsKeeps gs vs) : GsKeeps (gCons g gs) vs := fun v σ H Q Q' k q => by
  obtain ⟨x, r, e, q⟩ := q
  exact ⟨x, r, e, h1 _ _ _ _ _ (fun σ' H' e' q' => h2 _ _ _ _ _ (fun σ'' H'' e'' q'' => k _ _ (e''.trans e') q'') q') q⟩
theorem gk_tup {K : Frg} {n : Nat} {gs : TGs} {vs : List Nat} (h : GsKeeps gs vs) : GKeeps (gTup K n gs) vs := fun v σ H Q Q' k q => by
  obtain ⟨a, xs, e, s, l, q⟩ := q
  exact ⟨a, xs, e, s, l, h _ _ _ _ _ k q⟩
section
variable {K : Frg} {H0 H : Hp} {A0 : Bs} {A : List Addr} {σ : L2.St} {ρ : DEnv} {p : Addr}
/-- an object put aside: hidden, no slot's -/
theorem EnvOk.aside (x : EnvOk K H0 A0 A σ H ρ) (hp : p ∈ A) (h0 : H0 p = none) (ns : NoSlot σ ρ p) : EnvOk K H0 ⟨p :: A0.l, A0.me⟩ A σ H ρ where
  len := x.len
  go0 := x.go0
  go1 := by
    have e : hide (p :: A0.l) H0 = hide A0.l H0 := by
      funext a
      unfold hide
      by_cases h : a ∈ A0.l
      · rw [if_pos h, if_pos (List.mem_cons_of_mem _ h)]
      · by_cases e : a = p
        · subst e
          rw [if_pos List.mem_cons_self, if_neg h, h0]
        · rw [if_neg h, if_neg (by simp only [List.mem_cons, not_or]; exact ⟨e, h⟩)]
    show Go (hide (p :: A0.l) H0) _
    rw [e]
    exact x.go1
  sub := fun a m => by
    rcases List.mem_cons.mp (show a ∈ p :: A0.l from m) with rfl | m
    · exact hp
    · exact x.sub a m
  al := x.al
  fr0 := fun a m n => x.fr0 a m fun z => n (show a ∈ p :: A0.l from List.mem_cons_of_mem _ z)
  sh := x.sh
  ow := fun i d h => by
    obtain ⟨a, e, m, n, r⟩ := x.ow i d h
    refine ⟨a, e, m, fun z => ?_, r⟩
    rcases List.mem_cons.mp (show a ∈ p :: A0.l from z) with rfl | z
    · exact ns i d h e
    · exact n z
  nd := x.nd
  me := x.me
theorem EnvOk.unaside (x : EnvOk K H0 ⟨p :: A0.l, A0.me⟩ A σ H ρ) (h0 : H0 p = none) : EnvOk K H0 A0 A σ H ρ ∧ p ∈ A ∧ NoSlot σ ρ p := by
  have hp : p ∈ A := x.sub p (show p ∈ p :: A0.l from List.mem_cons_self)
  refine ⟨⟨x.len, x.go0, ?_, fun a m => x.sub a (show a ∈ p :: A0.l from List.mem_cons_of_mem _ m), x.al, fun a m n => ?_, x.sh, fun i d h => ?_, x.nd, x.me⟩, hp, fun i d h e => ?_⟩
  · have e : hide (p :: A0.l) H0 = hide A0.l H0 := by
      funext a
      unfold hide
      by_cases h : a ∈ A0.l
      · rw [if_pos h, if_pos (List.mem_cons_of_mem _ h)]
      · by_cases e : a = p
        · subst e
          rw [if_pos List.mem_cons_self, if_neg h, h0]
        · rw [if_neg h, if_neg (by simp only [List.mem_cons, not_or]; exact ⟨e, h⟩)]
    rw [← e]
    exact x.go1
  · by_cases e : a = p
    · subst e; exact h0
    · exact x.fr0 a m fun z => by
        rcases List.mem_cons.mp (show a ∈ p :: A0.l from z) with q | z
        · exact e q
        · exact n z
  · obtain ⟨a, e, m, n, r⟩ := x.ow i d h
    exact ⟨a, e, m, fun z => n (show a ∈ p :: A0.l from List.mem_cons_of_mem _ z), r⟩
  · obtain ⟨a, e', m, n, r⟩ := x.ow i d h
    rw [e] at e'
    cases e'
    exact n (show p ∈ p :: A0.l from List.mem_cons_self)
theorem EnvOk.mutA {o : HO} (x : EnvOk K H0 A0 A σ H ρ) (hp : p ∈ A0.l) (h0 : H0 p = none) : EnvOk K H0 A0 A σ (upd H p o) ρ where
  len := x.len
  go0 := x.go0.mut h0
  go1 := by rw [hide_upd (x.sub p hp)]; exact x.go1
  sub := x.sub
  al := fun a m => by
    by_cases e : a = p
    · subst e; exact ⟨o, upd_same⟩
    · rw [upd_ne e]; exact x.al a m
  fr0 := x.fr0
  sh := fun i d h => by rw [hide_upd (x.sub p hp)]; exact x.sh i d h
  ow := fun i d h => by
    obtain ⟨a, e, m, n, r⟩ := x.ow i d h
    exact ⟨a, e, m, n, r.at (upd_ne fun z => n (by rw [z]; exact hp)) (by rw [hide_upd (x.sub p hp)]; exact Go.refl _)⟩
  nd := x.nd
  me := x.me
theorem backD_get {ρ ρ' : DEnv} (i : Nat) : ∀ vs : List Nat, (backD ρ ρ' vs)[i]? = if i ∈ vs then (ρ'[i]?).map (fun _ => shOnly (nth ρ i)) else ρ'[i]?
  | [] => by simp [backD]
  | v :: vs => by
    unfold backD
    rw [List.getElem?_set]
    have ih := backD_get (ρ := ρ) (ρ' := ρ') i vs
    have hl : (backD ρ ρ' vs).length = ρ'.length := by
      clear ih
      induction vs with
      | nil => rfl
      | cons w ws ih => unfold backD; rw [List.length_set, ih]
    by_cases e : v = i
    · subst e
      rw [if_pos rfl, hl]
      by_cases h : v < ρ'.length
      · rw [if_pos h, if_pos List.mem_cons_self, List.getElem?_eq_getElem h]
        rfl
      · rw [if_neg h, if_pos List.mem_cons_self, List.getElem?_eq_none (by omega)]
        rfl
    · rw [if_neg e, ih]
      by_cases h : i ∈ vs
      · rw [if_pos h, if_pos (List.mem_cons_of_mem _ h)]
      · rw [if_neg h, if_neg (by simp only [List.mem_cons, not_or]; exact ⟨fun z => e z.symm, h⟩)]
/-- behind the block the slots are as they were -/
theorem EnvOk.back {vs : List Nat} {H' : Hp} {A' : List Addr} {ρ' : DEnv} (x : EnvOk K H0 A0 A σ H ρ) (g : Go (hide A H) (hide A' H')) (y : EnvOk K H0 A0 A' (L2.wipe σ vs) H' ρ') : EnvOk K H0 A0 A' σ H' (backD ρ ρ' vs) where
  len := by
    have e1 := y.len
    rw [wipe_length] at e1
    rw [e1]
    have : ∀ ws : List Nat, (backD ρ ρ' ws).length = ρ'.length := fun ws => by
      induction ws with
      | nil => rfl
      | cons w ws ih => unfold backD; rw [List.length_set, ih]
    exact (this vs).symm
  go0 := y.go0
  go1 := y.go1
  sub := y.sub
  al := y.al
  fr0 := y.fr0
  sh := fun i d h => by
    rw [backD_get] at h
    by_cases m : i ∈ vs
    · rw [if_pos m] at h
      cases hn : nth ρ i with
      | em => rw [hn] at h; cases q : ρ'[i]? <;> rw [q] at h <;> cases h
      | ow c => rw [hn] at h; cases q : ρ'[i]? <;> rw [q] at h <;> cases h
      | sh c =>
        have e : c = d := by
          rw [hn] at h
          cases q : ρ'[i]? with
          | none => rw [q] at h; cases h
          | some s => rw [q] at h; cases h; rfl
        subst e
        obtain ⟨v, e1, r⟩ := x.sh i c (nth_sh hn)
        exact ⟨v, e1, r.mono g.le⟩
    · rw [if_neg m] at h
      obtain ⟨v, e1, r⟩ := y.sh i d h
      rw [wipe_get, if_neg m] at e1
      exact ⟨v, e1, r⟩
  ow := fun i d h => by
    rw [backD_get] at h
    by_cases m : i ∈ vs
    · rw [if_pos m] at h
      cases hn : nth ρ i with
      | em => rw [hn] at h; cases q : ρ'[i]? <;> rw [q] at h <;> cases h
      | ow c => rw [hn] at h; cases q : ρ'[i]? <;> rw [q] at h <;> cases h
      | sh c => rw [hn] at h; cases q : ρ'[i]? <;> rw [q] at h <;> cases h
    · rw [if_neg m] at h
      obtain ⟨a, e1, r⟩ := y.ow i d h
      rw [wipe_get, if_neg m] at e1
      exact ⟨a, e1, r⟩
  nd := fun i j d e b h1 h2 h3 h4 => by
    have key : ∀ (k : Nat) (c : D), (backD ρ ρ' vs)[k]? = some (.ow c) → k ∉ vs ∧ ρ'[k]? = some (.ow c) := fun k c h => by
      rw [backD_get] at h
      by_cases m : k ∈ vs
      · rw [if_pos m] at h
        cases hn : nth ρ k with
        | em => rw [hn] at h; cases q : ρ'[k]? <;> rw [q] at h <;> cases h
        | ow c => rw [hn] at h; cases q : ρ'[k]? <;> rw [q] at h <;> cases h
        | sh c => rw [hn] at h; cases q : ρ'[k]? <;> rw [q] at h <;> cases h
      · rw [if_neg m] at h
        exact ⟨m, h⟩
    obtain ⟨m1, h1⟩ := key i d h1
    obtain ⟨m2, h2⟩ := key j e h2
    exact y.nd i j d e b h1 h2 (by rw [wipe_get, if_neg m1]; exact h3) (by rw [wipe_get, if_neg m2]; exact h4)
  me := fun p hp d h => by
    rw [backD_get] at h
    by_cases m : 0 ∈ vs
    · rw [if_pos m] at h
      cases hn : nth ρ 0 with
      | em => rw [hn] at h; cases q : ρ'[0]? <;> rw [q] at h <;> cases h
      | ow c => rw [hn] at h; cases q : ρ'[0]? <;> rw [q] at h <;> cases h
      | sh c => rw [hn] at h; cases q : ρ'[0]? <;> rw [q] at h <;> cases h
    · rw [if_neg m] at h
      have z := y.me p hp d h
      rw [wipe_get, if_neg m] at z
      exact z
end
/-- [e for g in t if tt]; no exception -/
def dLc (t : DTA) (g : DTG) (tt : DTT) (te : DTE) (vs : List Nat) : DTE := fun ρ Q E => t ρ (fun ds ρ1 => ∃ Pv : Nat → List D → DEnv → Prop, Pv 0 [] (wipeD ρ1 vs) ∧
  (∀ i d acc ρ, ds[i]? = some d → Pv i acc ρ → g d ρ fun ρ2 => tt ρ2 (fun b ρ3 => if b = true then te ρ3 (fun y ρ4 => acc.length < sizeLine ∧ Pv (i + 1) (acc ++ [y]) (wipeD ρ4 vs)) (fun _ _ => False) else Pv (i + 1) acc (wipeD ρ3 vs)) (fun _ _ => False)) ∧
  ∀ acc ρ, Pv ds.length acc ρ → Q (.lst acc) (backD ρ1 ρ vs)) E
section
variable {K : Frg} {W : WX}
theorem sn_lc {wi : TI} {t : DTA} {g : TG} {dg : DTG} {tt : TT} {dt : DTT} {te : TE} {de : DTE} {vs : List Nat} (hi : SndI K W wi t) (hg : SndG K g dg) (hk : GKeeps g vs) (ht : SndT K WF tt dt) (he : SndE K WF te de) : SndF K W (tLc wi g tt te vs) (dLc t dg dt de vs) :=
  fun H0 A0 A σ H ρ Q E Qr x htr q e => hi H0 A0 A σ H ρ _ E _ x htr (fun ds ρ1 J H1 A1 af1 it hq => by
    obtain ⟨Pv, p0, step, done⟩ := hq
    intro p hp
    have h0 : H0 p = none := af1.ok.no0 hp
    have ok1 := ((af1.ok.wipe vs).newHid (o := .lst []) hp).aside (p := p) List.mem_cons_self h0 (fun i d a b => (af1.ok.wipe vs).noSlot (af1.ok.noA hp) i d a b)
    have gS : Go (hide A1 H1) (hide (p :: A1) (upd H1 p (.lst []))) := go_new_hide hp
    refine ⟨fun i m H' => ∃ A' ρ' acc xs, EnvOk K H0 ⟨p :: A0.l, A0.me⟩ A' (wipe σ vs) H' ρ' ∧ Go (hide A1 H1) (hide A' H') ∧ Go H1 H' ∧ H' p = some (.lst xs) ∧ Reps K (hide A' H') acc xs ∧ m = ds.length - i ∧ i ≤ ds.length ∧ Pv i acc ρ',
      ⟨_, p :: A1, wipeD ρ1 vs, [], [], ok1, gS, go_new hp, upd_same, Reps.nil, rfl, Nat.zero_le _, p0⟩, ?_⟩
    rintro i m H2 ⟨A2, ρ2, acc, xs, ok2, g2, gf2, hx, rx, rfl, hle, p2⟩
    obtain ⟨st, go⟩ := it A2 H2 g2 fun a ha => ok2.noA ha
    by_cases hlt : i < ds.length
    · obtain ⟨g1, gy⟩ := go i ds[i] (by simp [hlt])
      refine .inr ⟨g1, fun H' => ∃ A' ρ' acc xs, EnvOk K H0 ⟨p :: A0.l, A0.me⟩ A' (wipe σ vs) H' ρ' ∧ Go (hide A1 H1) (hide A' H') ∧ Go H1 H' ∧ H' p = some (.lst xs) ∧ Reps K (hide A' H') acc xs ∧ Pv (i + 1) acc ρ', ?_, fun y H3 hy => ?_⟩
      · rintro H' ⟨A', ρ', acc', xs', k1, k2, k3, k4, k5, k6⟩
        exact ⟨ds.length - (i + 1), by omega, A', ρ', acc', xs', k1, k2, k3, k4, k5, rfl, by omega, k6⟩
      · obtain ⟨g3, r3⟩ := gy y H3 hy
        have ok3 := ok2.go g3
        have g13 : Go (hide A1 H1) (hide A2 H3) := g2.trans g3.hide
        have rx3 : Reps K (hide A2 H3) acc xs := rx.mono g3.hide.le
        have hx3 : H3 p = some (.lst xs) := g3.at_lst hx
        refine hk _ _ _ _ _ (fun σ4 H4 ew q4 => ?_) (hg H0 ⟨p :: A0.l, A0.me⟩ A2 (wipe σ vs) H3 ρ2 y ds[i] _ (fun σ4 H4 => H4 = H3 ∧ ∃ ρ4, EnvOk K H0 ⟨p :: A0.l, A0.me⟩ A2 σ4 H3 ρ4 ∧ dt ρ4 (fun b ρ5 => if b = true then de ρ5 (fun z ρ6 => acc.length < sizeLine ∧ Pv (i + 1) (acc ++ [z]) (wipeD ρ6 vs)) (fun _ _ => False) else Pv (i + 1) acc (wipeD ρ5 vs)) (fun _ _ => False)) ok3 r3 (step i ds[i] acc ρ2 (by simp [hlt]) p2) fun ρ4 σ4 ok4 hq4 => ⟨rfl, ρ4, ok4, hq4⟩)
        obtain ⟨rfl, ρ4, ok4, q4⟩ := q4
        refine ⟨ew.trans wipe_wipe, ?_⟩
        have ew2 : wipe σ4 vs = wipe σ vs := ew.trans wipe_wipe
        refine ht H0 _ A2 σ4 H4 ρ4 _ _ _ ok4 q4 (fun b ρ5 v H5 A5 af5 ev q5 => ?_) fun c ρ' H' A' af z => z.elim
        subst ev
        cases v with
        | false =>
          have ok5 := af5.ok.wipe vs
          rw [ew2] at ok5
          exact ⟨A5, _, acc, xs, ok5, g13.trans af5.go, (gf2.trans g3).trans af5.gf, af5.gf.at_lst hx3, rx3.mono af5.go.le, q5⟩
        | true =>
          refine he H0 _ A5 σ4 H5 ρ5 _ _ _ af5.ok q5 (fun z ρ6 u H6 A6 af6 ru q6 => ?_) fun c ρ' H' A' af z => z.elim
          have af := af5.trans af6
          have hx6 : H6 p = some (.lst xs) := af.gf.at_lst hx3
          refine ⟨xs, hx6, by rw [← rx.length]; exact q6.1, ?_⟩
          have hpa : p ∈ A6 := af6.ok.sub p (show p ∈ p :: A0.l from List.mem_cons_self)
          have ok6 := (af6.ok.wipe vs).mutA (o := .lst (xs ++ [u])) (show p ∈ p :: A0.l from List.mem_cons_self) h0
          rw [ew2] at ok6
          have eh : hide A6 (upd H6 p (.lst (xs ++ [u]))) = hide A6 H6 := hide_upd hpa
          refine ⟨A6, _, acc ++ [z], xs ++ [u], ok6, ?_, ?_, upd_same, ?_, q6.2⟩
          · rw [eh]; exact g13.trans af.go
          · exact ((gf2.trans g3).trans af.gf).mut hp
          · rw [eh]
            exact (rx3.mono af.go.le).append (Reps.cons ru Reps.nil)
    · have ei : i = ds.length := by omega
      subst ei
      refine .inl ⟨st, ?_⟩
      obtain ⟨ok4, m4, ns4⟩ := ok2.unaside h0
      have ok5 := af1.ok.back g2 ok4
      refine q (.lst acc) (backD ρ1 ρ2 vs) p H2 A2 ⟨ok5, af1.go.trans g2, af1.gf.trans gf2⟩ m4 (af1.ok.noA0 hp) (fun j d a b => ?_) (Own.mkL hx rx) (done acc ρ2 p2)
      obtain ⟨c, e1, m1, n1, r1⟩ := ok5.ow j d a
      rw [b] at e1
      cases e1
      rw [backD_get] at a
      by_cases m : j ∈ vs
      · rw [if_pos m] at a
        cases hn : nth ρ1 j with
        | em => rw [hn] at a; cases q : ρ2[j]? <;> rw [q] at a <;> cases a
        | ow c => rw [hn] at a; cases q : ρ2[j]? <;> rw [q] at a <;> cases a
        | sh c => rw [hn] at a; cases q : ρ2[j]? <;> rw [q] at a <;> cases a
      · rw [if_neg m] at a
        exact ns4 j d a (by rw [wipe_get, if_neg m]; exact b)) e
end
theorem se_of {K : Frg} {W : WX} {de : DTE} : SndE K W (teOf K W de) de := fun H0 A0 A σ H ρ Q E Qr x ht q e => ⟨H0, A0, A, ρ, Q, E, x, ht, q, e⟩
theorem st_of {K : Frg} {W : WX} {de : DTT} : SndT K W (ttOf K W de) de := fun H0 A0 A σ H ρ Q E Qr x ht q e => ⟨H0, A0, A, ρ, Q, E, x, ht, q, e⟩
def dYes : DTT := fun ρ Q _ => Q true ρ
theorem st_yes {K : Frg} {W : WX} : SndT K W tYes dYes := fun H0 A0 A σ H ρ Q E Qr x ht q e => q true ρ true H A x.afe rfl ht
section
variable {X : Cx} {W : WX} {elt tg iter c : Expr} {scope : Scope} {wi : TI} {t : DTA} {de : DTE} {dt : DTT} {pos px py pz pt : Pos} {x y z : Str} {i j k kk : Nat}
/-- a comprehension: as a value, as what a name is given on one line -/
structure LC (X : Cx) (W : WX) (e : Expr) (te : TE) (d : DTE) : Prop where
  f : DF X W e te d
  set : ∀ (i : Nat) (y : Str) (py spos : Pos), X.N[i]? = some y → X.env.scope.names.lookup y = some .local → swapsWith e (some (.Name y py)) spos.line X.env = pure true → PS X (.Assign [.Name y py] e spos) (tAsg te (gName i))
theorem df_lcG {g : TG} {dg : DTG} (own : List (Str × Nat)) (hc : X.calm = true) (hN : X.N.Nodup) (hi : DI X W tg iter wi t) (ok : BlkOk X.N X.env.scope scope own) (hk : GKeeps g (own.map (·.2)))
    (hg : ∀ (s : Shared) (H : Hp) (C : Addr) (cl : List (Str × Addr)) (fp : List Addr), DGt (X.blk s H scope (compEnvC scope cl C X.env) fp) tg g dg)
    (he : ∀ (s : Shared) (H : Hp) (C : Addr) (cl : List (Str × Addr)) (fp : List Addr), ∃ te, DE (X.blk s H scope (compEnvC scope cl C X.env) fp) WF elt te de) (hs : ∀ x, foldedSetIterable iter X.env x = pure x := by intro _; rfl) :
    LC X W (.ListComp elt [⟨tg, iter, [], 0⟩] scope pos) (tLc wi g tYes (teOf X.K WF de) (own.map (·.2))) (dLc t dg dYes de (own.map (·.2))) :=
  ⟨⟨pe_lc hc hN hi.pi ok (fun s H C cl fp => (hg s H C cl fp).pg) (fun _ _ _ _ _ => pts_nil) (fun s H C cl fp => let ⟨te, h⟩ := he s H C cl fp; h.canon.pe) hs,
   sn_lc hi.sn (hg {} (fun _ => none) 0 [] []).sn hk st_yes se_of⟩,
   fun i y py spos hy hyl hsw => ps_setLc hc hN hy hyl hsw hi.pi ok (fun s H C cl fp => (hg s H C cl fp).pg) (fun _ _ _ _ _ => pts_nil) (fun s H C cl fp => let ⟨te, h⟩ := he s H C cl fp; h.canon.pe) hs⟩
theorem df_lcIG {g : TG} {dg : DTG} (own : List (Str × Nat)) (hc : X.calm = true) (hN : X.N.Nodup) (hi : DI X W tg iter wi t) (ok : BlkOk X.N X.env.scope scope own) (hk : GKeeps g (own.map (·.2)))
    (hg : ∀ (s : Shared) (H : Hp) (C : Addr) (cl : List (Str × Addr)) (fp : List Addr), DGt (X.blk s H scope (compEnvC scope cl C X.env) fp) tg g dg)
    (ht : ∀ (s : Shared) (H : Hp) (C : Addr) (cl : List (Str × Addr)) (fp : List Addr), ∃ tt, DT (X.blk s H scope (compEnvC scope cl C X.env) fp) WF c tt dt)
    (he : ∀ (s : Shared) (H : Hp) (C : Addr) (cl : List (Str × Addr)) (fp : List Addr), ∃ te, DE (X.blk s H scope (compEnvC scope cl C X.env) fp) WF elt te de) (hs : ∀ x, foldedSetIterable iter X.env x = pure x := by intro _; rfl) :
    LC X W (.ListComp elt [⟨tg, iter, [c], 0⟩] scope pos) (tLc wi g (ttOf X.K WF dt) (teOf X.K WF de) (own.map (·.2))) (dLc t dg dt de (own.map (·.2))) :=
  ⟨⟨pe_lc hc hN hi.pi ok (fun s H C cl fp => (hg s H C cl fp).pg) (fun s H C cl fp => let ⟨tt, h⟩ := ht s H C cl fp; pts_one h.canon.pe) (fun s H C cl fp => let ⟨te, h⟩ := he s H C cl fp; h.canon.pe) hs,
   sn_lc hi.sn (hg {} (fun _ => none) 0 [] []).sn hk st_of se_of⟩,
   fun i y py spos hy hyl hsw => ps_setLc hc hN hy hyl hsw hi.pi ok (fun s H C cl fp => (hg s H C cl fp).pg) (fun s H C cl fp => let ⟨tt, h⟩ := ht s H C cl fp; pts_one h.canon.pe) (fun s H C cl fp => let ⟨te, h⟩ := he s H C cl fp; h.canon.pe) hs⟩
theorem ds_ownLc {e : Expr} {te : TE} {d : DTE} {fr : Bool} (h : LC X W e te d) (hy : X.N[i]? = some y := by rfl) (hyl : X.env.scope.names.lookup y = some .local := by rfl) (hsw : swapsWith e (some (.Name y py)) pos.line X.env = pure true := by rfl) (hi0 : i ≠ 0 := by decide) :
    DS X W fr (.Assign [.Name y py] e pos) (tAsg te (gName i)) (dOwn i d) := ⟨h.set i y py pos hy hyl hsw, ss_own h.f.sn hi0⟩
theorem ds_setLc {e : Expr} {te : TE} {d : DTE} {fr : Bool} (h : LC X W e te d) (hy : X.N[i]? = some y := by rfl) (hyl : X.env.scope.names.lookup y = some .local := by rfl) (hsw : swapsWith e (some (.Name y py)) pos.line X.env = pure true := by rfl) :
    DS X W fr (.Assign [.Name y py] e pos) (tAsg te (gName i)) (dSet i d) := ⟨h.set i y py pos hy hyl hsw, ss_set h.f.e.sn⟩
/-! by targets -/
section
variable {X : Cx} {W : WX} {elt tg iter c : Expr} {scope : Scope} {wi : TI} {t : DTA} {de : DTE} {dt : DTT} {pos px py pz pt : Pos} {x y z : Str} {i j k kk : Nat}
abbrev Blk (X : Cx) (scope : Scope) (N : List Str) (sc : Scope) (own : List (Str × Nat)) : Prop := blkC N sc scope own = true
theorem blk_ok {N : List Str} {sc : Scope} {own : List (Str × Nat)} (h : blkC N sc scope own = true) (e1 : X.N = N) (e2 : X.env.scope = sc) : BlkOk X.N X.env.scope scope own := by rw [e1, e2]; exact blkOk_by h
theorem df_lc1 (i : Nat) (own : List (Str × Nat)) {N : List Str} {sc : Scope} (hc : X.calm = true) (hN : X.N.Nodup) (hi : DI X W (.Name x px) iter wi t) (ok : blkC N sc scope own = true)
    (he : ∀ (s : Shared) (H : Hp) (C : Addr) (cl : List (Str × Addr)) (fp : List Addr), ∃ te, DE (X.blk s H scope (compEnvC scope cl C X.env) fp) WF elt te de) (e1 : X.N = N := by rfl) (e2 : X.env.scope = sc := by rfl) (hx : X.N[i]? = some x := by rfl) (hm : i ∈ own.map (·.2) := by decide)
    (hl : ∀ cl C, Loc (compEnvC scope cl C X.env).scope x := by intro _ _; first | exact Or.inl rfl | exact Or.inr rfl)
    (hf : ∀ cl C, (scope.names.lookup x == some .cell) = true ∨ (compEnvC scope cl C X.env).scope.names.lookup x = some .local := by intro _ _; first | exact Or.inl rfl | exact Or.inr rfl)
    (hs : ∀ x, foldedSetIterable iter X.env x = pure x := by intro _; rfl) : LC X W (.ListComp elt [⟨.Name x px, iter, [], 0⟩] scope pos) (tLc wi (gName i) tYes (teOf X.K WF de) (own.map (·.2))) (dLc t (dgName i) dYes de (own.map (·.2))) :=
  df_lcG own hc hN hi (blk_ok ok e1 e2) (gk_name hm) (fun s H C cl fp => dg_name hN hx (hl cl C) (hf cl C)) he hs
theorem df_lcI1 (i : Nat) (own : List (Str × Nat)) {N : List Str} {sc : Scope} (hc : X.calm = true) (hN : X.N.Nodup) (hi : DI X W (.Name x px) iter wi t) (ok : blkC N sc scope own = true)
    (ht : ∀ (s : Shared) (H : Hp) (C : Addr) (cl : List (Str × Addr)) (fp : List Addr), ∃ tt, DT (X.blk s H scope (compEnvC scope cl C X.env) fp) WF c tt dt)
    (he : ∀ (s : Shared) (H : Hp) (C : Addr) (cl : List (Str × Addr)) (fp : List Addr), ∃ te, DE (X.blk s H scope (compEnvC scope cl C X.env) fp) WF elt te de) (e1 : X.N = N := by rfl) (e2 : X.env.scope = sc := by rfl) (hx : X.N[i]? = some x := by rfl) (hm : i ∈ own.map (·.2) := by decide)
    (hl : ∀ cl C, Loc (compEnvC scope cl C X.env).scope x := by intro _ _; first | exact Or.inl rfl | exact Or.inr rfl)
    (hf : ∀ cl C, (scope.names.lookup x == some .cell) = true ∨ (compEnvC scope cl C X.env).scope.names.lookup x = some .local := by intro _ _; first | exact Or.inl rfl | exact Or.inr rfl)
    (hs : ∀ x, foldedSetIterable iter X.env x = pure x := by intro _; rfl) : LC X W (.ListComp elt [⟨.Name x px, iter, [c], 0⟩] scope pos) (tLc wi (gName i) (ttOf X.K WF dt) (teOf X.K WF de) (own.map (·.2))) (dLc t (dgName i) dt de (own.map (·.2))) :=
  df_lcIG own hc hN hi (blk_ok ok e1 e2) (gk_name hm) (fun s H C cl fp => dg_name hN hx (hl cl C) (hf cl C)) ht he hs
theorem df_lc2 (i j : Nat) (own : List (Str × Nat)) {N : List Str} {sc : Scope} (hc : X.calm = true) (hN : X.N.Nodup) (hi : DI X W (.Tuple [.Name x px, .Name y py] kk pt) iter wi t) (ok : blkC N sc scope own = true)
    (he : ∀ (s : Shared) (H : Hp) (C : Addr) (cl : List (Str × Addr)) (fp : List Addr), ∃ te, DE (X.blk s H scope (compEnvC scope cl C X.env) fp) WF elt te de) (e1 : X.N = N := by rfl) (e2 : X.env.scope = sc := by rfl) (hx : X.N[i]? = some x := by rfl) (hy : X.N[j]? = some y := by rfl) (hm : i ∈ own.map (·.2) := by decide) (hm2 : j ∈ own.map (·.2) := by decide)
    (hl : ∀ cl C, Loc (compEnvC scope cl C X.env).scope x := by intro _ _; first | exact Or.inl rfl | exact Or.inr rfl)
    (hf : ∀ cl C, (scope.names.lookup x == some .cell) = true ∨ (compEnvC scope cl C X.env).scope.names.lookup x = some .local := by intro _ _; first | exact Or.inl rfl | exact Or.inr rfl)
    (hl2 : ∀ cl C, Loc (compEnvC scope cl C X.env).scope y := by intro _ _; first | exact Or.inl rfl | exact Or.inr rfl)
    (hf2 : ∀ cl C, (scope.names.lookup y == some .cell) = true ∨ (compEnvC scope cl C X.env).scope.names.lookup y = some .local := by intro _ _; first | exact Or.inl rfl | exact Or.inr rfl)
    (hs : ∀ x, foldedSetIterable iter X.env x = pure x := by intro _; rfl) : LC X W (.ListComp elt [⟨.Tuple [.Name x px, .Name y py] kk pt, iter, [], 0⟩] scope pos) (tLc wi (gTup X.K 2 (gCons (gName i) (gCons (gName j) gNil))) tYes (teOf X.K WF de) (own.map (·.2))) (dLc t (dgTup 2 (dgCons (dgName i) (dgCons (dgName j) dgNil))) dYes de (own.map (·.2))) :=
  df_lcG own hc hN hi (blk_ok ok e1 e2) (gk_tup (gk_cons (gk_name hm) (gk_cons (gk_name hm2) gk_nil))) (fun s H C cl fp => dg_tup hc (dgs_cons (dg_name hN hx (hl cl C) (hf cl C)) (dgs_cons (dg_name hN hy (hl2 cl C) (hf2 cl C)) dgs_nil))) he hs
theorem df_lcI2 (i j : Nat) (own : List (Str × Nat)) {N : List Str} {sc : Scope} (hc : X.calm = true) (hN : X.N.Nodup) (hi : DI X W (.Tuple [.Name x px, .Name y py] kk pt) iter wi t) (ok : blkC N sc scope own = true)
    (ht : ∀ (s : Shared) (H : Hp) (C : Addr) (cl : List (Str × Addr)) (fp : List Addr), ∃ tt, DT (X.blk s H scope (compEnvC scope cl C X.env) fp) WF c tt dt)
    (he : ∀ (s : Shared) (H : Hp) (C : Addr) (cl : List (Str × Addr)) (fp : List Addr), ∃ te, DE (X.blk s H scope (compEnvC scope cl C X.env) fp) WF elt te de) (e1 : X.N = N := by rfl) (e2 : X.env.scope = sc := by rfl) (hx : X.N[i]? = some x := by rfl) (hy : X.N[j]? = some y := by rfl) (hm : i ∈ own.map (·.2) := by decide) (hm2 : j ∈ own.map (·.2) := by decide)
    (hl : ∀ cl C, Loc (compEnvC scope cl C X.env).scope x := by intro _ _; first | exact Or.inl rfl | exact Or.inr rfl)
    (hf : ∀ cl C, (scope.names.lookup x == some .cell) = true ∨ (compEnvC scope cl C X.env).scope.names.lookup x = some .local := by intro _ _; first | exact Or.inl rfl | exact Or.inr rfl)
    (hl2 : ∀ cl C, Loc (compEnvC scope cl C X.env).scope y := by intro _ _; first | exact Or.inl rfl | exact Or.inr rfl)
    (hf2 : ∀ cl C, (scope.names.lookup y == some .cell) = true ∨ (compEnvC scope cl C X.env).scope.names.lookup y = some .local := by intro _ _; first | exact Or.inl rfl | exact Or.inr rfl)
    (hs : ∀ x, foldedSetIterable iter X.env x = pure x := by intro _; rfl) : LC X W (.ListComp elt [⟨.Tuple [.Name x px, .Name y py] kk pt, iter, [c], 0⟩] scope pos) (tLc wi (gTup X.K 2 (gCons (gName i) (gCons (gName j) gNil))) (ttOf X.K WF dt) (teOf X.K WF de) (own.map (·.2))) (dLc t (dgTup 2 (dgCons (dgName i) (dgCons (dgName j) dgNil))) dt de (own.map (·.2))) :=
  df_lcIG own hc hN hi (blk_ok ok e1 e2) (gk_tup (gk_cons (gk_name hm) (gk_cons (gk_name hm2) gk_nil))) (fun s H C cl fp => dg_tup hc (dgs_cons (dg_name hN hx (hl cl C) (hf cl C)) (dgs_cons (dg_name hN hy (hl2 cl C) (hf2 cl C)) dgs_nil))) ht he hs
end
end
end DL

end

section
/-! The D layer, 10: the head's facts. -/
namespace DL
open PySem PySem.Spec PyProof.Rows L2
def eqB (a b : Option (Option Value)) : Bool := decide (a = b)
def eqO (a b : Option Bool) : Bool := decide (a = b)
/-- what isinstance asks of an own class -/
def insB (C : Str) (K : Frg) : Bool := eqB (PySem.W.findIn K (.ref (He.ga K C)) "__class__") (some (some (.builtin "object.__class__"))) && (eqB (PySem.W.specialIn K (.builtin "object.__class__") "__get__") (some (some (.builtin "getset_descriptor.__get__"))) &&
  (eqO (PySem.W.takesIn K (.builtin "object.__class__")) (some true) && eqO (PySem.W.mroIn K (He.ga K C) (.type "object")) (some true)))
theorem insB_ok {K : Frg} {C : Str} (c : Cls K (He.ga K C)) (h : insB C K = true) : InsF K C := by
  obtain ⟨h1, h⟩ := He.ba h
  obtain ⟨h2, h⟩ := He.ba h
  obtain ⟨h3, h4⟩ := He.ba h
  exact ⟨c, of_decide_eq_true h1, of_decide_eq_true h2, of_decide_eq_true h3, of_decide_eq_true h4⟩
def obsX (fa : List He.Fa) (fn : List He.DefD) (bs : List (Frg → Bool)) (K : Frg) : He.AlD := ((fa.all fun f => f.ok K) && ((bs.all fun b => b K) && fn.all fun d => d.ok K), fn.map fun d => He.fnW K d.at_)
def SaysX (fa : List He.Fa) (fn : List He.DefD) (bs : List (Frg → Bool)) (K : Frg) : Prop := obsX fa fn bs K = He.valD fn
def obsXG (n : Nat) (fa : List He.Fa) (fn : List He.DefD) (bs : List (Frg → Bool)) (g : Addr → Option Obj) : He.AlD := obsX fa fn bs (He.frG g (He.asD g n))
def hookX (n : Nat) (fa : List He.Fa) (fn : List He.DefD) (bs : List (Frg → Bool)) : PySem.W.Hook where
  α := He.AlD
  obs := fun s => obsXG n fa fn bs s.heap.get?
  val := fun _ => He.valD fn
  says := fun _ h => ∃ K : Frg, K.In h ∧ SaysX fa fn bs K
  of := fun _ _ e => ⟨_, He.frG_in, e⟩
  keeps := fun _ _ _ ⟨K, hK, c⟩ k => ⟨K, PySem.W.Frag.In.keeps hK k, c⟩
theorem obsXG_eq {n : Nat} {fa : List He.Fa} {fn : List He.DefD} {bs : List (Frg → Bool)} {g : Addr → Option Obj} {s : Shared} (h : ∀ a, g a = s.heap.get? a) : obsXG n fa fn bs g = (hookX n fa fn bs).obs s := by
  have e : g = s.heap.get? := funext h
  rw [e] <;> rfl
/-- the facts, the module's names -/
structure Fx (fa : List He.Fa) (fn : List He.DefD) (bs : List (Frg → Bool)) (K : Frg) (mg : Str → Option Value) (base : Heap) : Prop where
  kin : K.In base
  ns : base.Ns mainGlobals mg
  says : SaysX fa fn bs K
section
variable {fa : List He.Fa} {fn : List He.DefD} {bs : List (Frg → Bool)} {K : Frg} {mg : Str → Option Value} {base : Heap}
theorem SaysX.def_ (c : SaysX fa fn bs K) (i : Nat) {d : He.DefD} (h : fn[i]? = some d := by rfl) : ∃ fd, FunD K d.name d.qual d.params d.body d.scope (d.dvs K) (d.kws K) (He.fAd K d.at_) fd := by
  have c2 := (He.ba (He.ba (show ((fa.all fun f => f.ok K) && ((bs.all fun b => b K) && fn.all fun d => d.ok K)) = true from congrArg (fun z : He.AlD => z.1) c)).2).2
  have e : fn.map (fun d => He.fnW K d.at_) = fn.map He.DefD.val := congrArg (fun z : He.AlD => z.2) c
  have e2 : (fn.map fun d => He.fnW K d.at_)[i]? = (fn.map He.DefD.val)[i]? := by rw [e]
  rw [List.getElem?_map, List.getElem?_map, h] at e2
  exact He.DefD.funD (Option.some.inj e2) (List.all_eq_true.mp c2 d (List.mem_of_getElem? h))
theorem Fx.f (F : Fx fa fn bs K mg base) (i : Nat) {f : He.Fa} (h : fa[i]? = some f := by rfl) : f.ok K = true := by
  have c1 := (He.ba (show ((fa.all fun f => f.ok K) && ((bs.all fun b => b K) && fn.all fun d => d.ok K)) = true from congrArg (fun z : He.AlD => z.1) F.says)).1
  exact List.all_eq_true.mp c1 f (List.mem_of_getElem? h)
theorem Fx.b (F : Fx fa fn bs K mg base) (i : Nat) {b : Frg → Bool} (h : bs[i]? = some b := by rfl) : b K = true := by
  have c1 := (He.ba (He.ba (show ((fa.all fun f => f.ok K) && ((bs.all fun b => b K) && fn.all fun d => d.ok K)) = true from congrArg (fun z : He.AlD => z.1) F.says)).2).1
  exact List.all_eq_true.mp c1 b (List.mem_of_getElem? h)
theorem Fx.glo (F : Fx fa fn bs K mg base) (i : Nat) {x : Str} (h : fa[i]? = some (.glo x) := by rfl) : mg x = some (.ref (He.ga K x)) := He.glo_ok F.kin F.ns (F.f i h)
theorem Fx.free (F : Fx fa fn bs K mg base) (i : Nat) {x : Str} (h : fa[i]? = some (.free x) := by rfl) : mg x = none := He.free_ok F.kin F.ns (F.f i h)
theorem Fx.int (F : Fx fa fn bs K mg base) (i : Nat) {x : Str} {n : Int} (h : fa[i]? = some (.int x n) := by rfl) : ∃ t, mg x = some (.int n t) := He.int_ok F.kin F.ns (F.f i h)
theorem Fx.str (F : Fx fa fn bs K mg base) (i : Nat) {x z : Str} (h : fa[i]? = some (.str x z) := by rfl) : ∃ t, mg x = some (.str z t) := He.str_ok F.kin F.ns (F.f i h)
end
theorem fldF_nil {K : Frg} {f : Str} : FldF K [] f := fun _ m => nomatch m
theorem fldF_cons {K : Frg} {C f : Str} {Cs : List Str} (h1 : (He.Fa.cls C).ok K = true) (h2 : (He.Fa.noat C f).ok K = true) (h : FldF K Cs f) : FldF K (C :: Cs) f := fun D m => by
  rcases List.mem_cons.mp m with rfl | m
  · exact ⟨He.cls_ok h1, He.noat_ok h2⟩
  · exact h D m
def TblF (K : Frg) (y : Str) (tbl : List (Str × Bool)) : Prop := ∀ p ∈ tbl, PySem.W.exmOne K (.ref (He.ga K p.1)) (.ref (He.ga K y)) = some p.2
theorem tblF_nil {K : Frg} {y : Str} : TblF K y [] := fun _ m => nomatch m
theorem tblF_cons {K : Frg} {x y : Str} {b : Bool} {t : List (Str × Bool)} (h1 : (He.Fa.exm x y b).ok K = true) (h : TblF K y t) : TblF K y ((x, b) :: t) := fun p m => by
  rcases List.mem_cons.mp m with rfl | m
  · exact He.exm_ok h1
  · exact h p m
section
variable {X : Cx} {W : WX} {pos : Pos}
theorem de_gI {x : Str} {i : Int} (hm : ∃ t, X.mg x = some (.int i t)) (hg : Gl X x := by rfl) (hd : (x == ("__debug__" : Str)) = false := by decide) : DE X W (.Name x pos) (tC (.int i)) (dC (.int i)) := let ⟨_, h⟩ := hm; de_globI hg h hd
theorem de_gS {x : Str} {i : Str} (hm : ∃ t, X.mg x = some (.str i t)) (hg : Gl X x := by rfl) (hd : (x == ("__debug__" : Str)) = false := by decide) : DE X W (.Name x pos) (tC (.str i)) (dC (.str i)) := let ⟨_, h⟩ := hm; de_globS hg h hd
end
theorem roomU {k : Nat} {A : Around} (h : Room k A) : A.units + 64 < cLine := by have := h.un; omega
theorem boot_l {x : Str} {v : Value} (h : bootBuiltins x = some v) : bootBuiltins x = some v := h
section
variable {X : Cx} {W : WX} {e : Expr} {es : List Expr} {t : TA} {d : DTA} {p pos : Pos}
def de_len (hm : X.mg "len" = none) (ha : DAB X W (e :: es) t d) (hg : Gl X "len" := by rfl) (he : starEach (e :: es) X.env = (false, eval e X.env) :: starEach es X.env := by rfl) (hpl : (backTo pos (starEach es X.env)).any (·.1) = false := by rfl) :=
  de_cb (p := p) call_len calls_len hg hm (show bootBuiltins "len" = some (.builtin "len") by decide +kernel) ha (by decide) (by decide) he hpl
def de_abs (hm : X.mg "abs" = none) (ha : DAB X W (e :: es) t d) (hg : Gl X "abs" := by rfl) (he : starEach (e :: es) X.env = (false, eval e X.env) :: starEach es X.env := by rfl) (hpl : (backTo pos (starEach es X.env)).any (·.1) = false := by rfl) :=
  de_cb (p := p) call_abs calls_abs hg hm (show bootBuiltins "abs" = some (.builtin "abs") by decide +kernel) ha (by decide) (by decide) he hpl
def de_max2 (hc : X.calm = true) (hm : X.mg "max" = none) (ha : DAB X W (e :: es) t d) (hg : Gl X "max" := by rfl) (he : starEach (e :: es) X.env = (false, eval e X.env) :: starEach es X.env := by rfl) (hpl : (backTo pos (starEach es X.env)).any (·.1) = false := by rfl) :=
  de_cb (p := p) (call_max2 hc) calls_max2 hg hm (show bootBuiltins "max" = some (.builtin "max") by decide +kernel) ha (by decide) (by decide) he hpl
def de_min2 (hc : X.calm = true) (hm : X.mg "min" = none) (ha : DAB X W (e :: es) t d) (hg : Gl X "min" := by rfl) (he : starEach (e :: es) X.env = (false, eval e X.env) :: starEach es X.env := by rfl) (hpl : (backTo pos (starEach es X.env)).any (·.1) = false := by rfl) :=
  de_cb (p := p) (call_min2 hc) calls_min2 hg hm (show bootBuiltins "min" = some (.builtin "min") by decide +kernel) ha (by decide) (by decide) he hpl
def de_intC (hm : X.mg "int" = none) (ha : DAB X W (e :: es) t d) (hg : Gl X "int" := by rfl) (he : starEach (e :: es) X.env = (false, eval e X.env) :: starEach es X.env := by rfl) (hpl : (backTo pos (starEach es X.env)).any (·.1) = false := by rfl) :=
  de_cty (p := p) call_intD calls_int hg hm (show bootBuiltins "int" = some (.type "int") by decide +kernel) ha (by decide) (by decide) he hpl
def de_strC (hm : X.mg "str" = none) (ha : DAB X W (e :: es) t d) (hg : Gl X "str" := by rfl) (he : starEach (e :: es) X.env = (false, eval e X.env) :: starEach es X.env := by rfl) (hpl : (backTo pos (starEach es X.env)).any (·.1) = false := by rfl) :=
  de_cty (p := p) call_str_int calls_str hg hm (show bootBuiltins "str" = some (.type "str") by decide +kernel) ha (by decide) (by decide) he hpl
def de_tupC (hm : X.mg "tuple" = none) (ha : DAB X W (e :: es) t d) (hg : Gl X "tuple" := by rfl) (he : starEach (e :: es) X.env = (false, eval e X.env) :: starEach es X.env := by rfl) (hpl : (backTo pos (starEach es X.env)).any (·.1) = false := by rfl) :=
  de_cty (p := p) call_tuple_of calls_tuple hg hm (show bootBuiltins "tuple" = some (.type "tuple") by decide +kernel) ha (by decide) (by decide) he hpl
def df_listC (hm : X.mg "list" = none) (ha : DAB X W (e :: es) t d) (hg : Gl X "list" := by rfl) (he : starEach (e :: es) X.env = (false, eval e X.env) :: starEach es X.env := by rfl) (hpl : (backTo pos (starEach es X.env)).any (·.1) = false := by rfl) :=
  df_list (p := p) hg hm (show bootBuiltins "list" = some (.type "list") by decide +kernel) ha (by decide) (by decide) he hpl
end
end DL
namespace DL
open PySem PySem.Spec PyProof.Rows L2
theorem takesF {X : Cx} : Takes X WF := fun _ _ ⟨_, _, _, _, _, _, _, _, _, _, _, _, _, _, _, _, w⟩ => w.elim
end DL

namespace DL
open PySem PySem.Spec PyProof.Rows L2
/-! ### max, min, sum of a list or a tuple of whole numbers -/
section
variable {prog : Program} {w : World} {A : Around} {E : Value → Shared → Prop} {s : Shared} {l : Addr}
theorem iter_tup {items : Array Value} {Q : Value → Shared → Prop} (hl : s.heap.IsTuple l items)
    (h : ∀ s₂ : Shared, s₂ = { s with heap := s.heap.push { cls := .type "tuple_iterator", data := .fields #[.ref l, .int 0 0] } } →
      (s₂.heap.IsTupleIter s.heap.objs.size l 0 ∧ s₂.heap.IsTuple l items) → (∀ b ∈ [s.heap.objs.size, l], b < s₂.heap.objs.size) → l ≠ s.heap.objs.size → Q (.ref s.heap.objs.size) s₂) :
    wpAny (model prog w) A (pyIter (.ref l)) Q E s := by
  have hlt : l < s.heap.objs.size := by obtain ⟨_, e, _⟩ := hl; exact Heap.lt_size e
  refine wpAny_pyIter_tuple hl (h _ rfl ⟨⟨_, Heap.get?_push_size _ rfl, rfl, rfl⟩, hl.at fun o e => Heap.get?_push_of_some _ e⟩ (fun b hb => ?_) (Nat.ne_of_lt hlt))
  show b < (s.heap.push _).objs.size
  rw [Heap.size_push]
  rcases List.mem_cons.mp hb with rfl | hb
  · exact Nat.lt_succ_self _
  · rcases List.mem_cons.mp hb with rfl | hb
    · exact Nat.lt_succ_of_lt hlt
    · cases hb
theorem old_keptT {o : Obj} {h' : Heap} (hk : ∀ b ob, b ∉ [s.heap.objs.size] → (s.heap.push o).get? b = some ob → h'.get? b = some ob) : ∀ b ob, s.heap.get? b = some ob → h'.get? b = some ob := fun b ob e =>
  hk b ob (by simp; exact Nat.ne_of_lt (Heap.lt_size e)) (Heap.get?_push_of_some _ e)
variable {xs : Array (Int × Tok)}
theorem max_intTup {Q : Value → Shared → Prop} (hh : A.handled = none) (hl : s.heap.IsTuple l (intItems xs)) (hne : 0 < xs.size)
    (h : ∀ v h' tk, (intItems xs)[argBest (fun i j => decide (numAt xs i > numAt xs j)) (xs.size - 1)]? = some v → (∀ b o, s.heap.get? b = some o → h'.get? b = some o) → Q v { s with heap := h', toks := tk }) :
    wpAny (model prog w) A (call (.builtin "max") [.ref l]) Q E s := by
  refine call_max_walk (iter_tup hl fun s₂ e st hfp hlI => ?_)
  subst e
  refine ⟨_, _, _, _, _, _, _, rfl, Walks.tuple (A := A.in1) hh _ l hlI (intItems xs), st, hfp, by simpa [intItems] using hne, CmpOf.ints_gt (numAt xs) (fun _ _ => intItems_at), fun v h' tk hP hk => ?_⟩
  exact h v h' tk (by simpa [intItems] using hP) (old_keptT hk)
theorem min_intTup {Q : Value → Shared → Prop} (hh : A.handled = none) (hl : s.heap.IsTuple l (intItems xs)) (hne : 0 < xs.size)
    (h : ∀ v h' tk, (intItems xs)[argBest (fun i j => decide (numAt xs i < numAt xs j)) (xs.size - 1)]? = some v → (∀ b o, s.heap.get? b = some o → h'.get? b = some o) → Q v { s with heap := h', toks := tk }) :
    wpAny (model prog w) A (call (.builtin "min") [.ref l]) Q E s := by
  refine call_min_walk (iter_tup hl fun s₂ e st hfp hlI => ?_)
  subst e
  refine ⟨_, _, _, _, _, _, _, rfl, Walks.tuple (A := A.in1) hh _ l hlI (intItems xs), st, hfp, by simpa [intItems] using hne, CmpOf.ints_lt (numAt xs) (fun _ _ => intItems_at), fun v h' tk hP hk => ?_⟩
  exact h v h' tk (by simpa [intItems] using hP) (old_keptT hk)
variable {its : List Value} {ns : List Int} {Q : Value → Shared → Prop}
theorem max_rawT (hh : A.handled = none) (hl : s.heap.IsTuple l its.toArray) (hi : IntsAre its ns) (hne : 0 < ns.length)
    (h : ∀ h' tk M t', (∀ b o, s.heap.get? b = some o → h'.get? b = some o) → M ∈ ns → (∀ a, a ∈ ns → a ≤ M) → Q (.int M t') { s with heap := h', toks := tk }) : wpAny (model prog w) A (call (.builtin "max") [.ref l]) Q E s := by
  obtain ⟨xs, e⟩ := hi.allInts.items
  have hn : numsOf (intItems xs).toList = ns := by rw [← e]; exact hi.numsOf
  rw [nums_intItems] at hn
  subst hn
  rw [e] at hl
  have hsz : 0 < xs.size := by simpa using hne
  refine max_intTup hh hl hsz fun v h' tk hv hk => ?_
  obtain ⟨t, rfl⟩ := intItems_at hv
  obtain ⟨h1, h2⟩ := argBest_gt (numAt xs) (xs.size - 1)
  refine h h' tk _ t hk ?_ fun a ha => ?_
  · rw [numAt_eq]; exact PySem.getD_mem (by rw [List.length_map, Array.length_toList]; omega)
  · obtain ⟨j, hj, rfl⟩ := mem_getD ha
    rw [List.length_map, Array.length_toList] at hj
    rw [← numAt_eq]; exact h2 j (by omega)
theorem min_rawT (hh : A.handled = none) (hl : s.heap.IsTuple l its.toArray) (hi : IntsAre its ns) (hne : 0 < ns.length)
    (h : ∀ h' tk M t', (∀ b o, s.heap.get? b = some o → h'.get? b = some o) → M ∈ ns → (∀ a, a ∈ ns → M ≤ a) → Q (.int M t') { s with heap := h', toks := tk }) : wpAny (model prog w) A (call (.builtin "min") [.ref l]) Q E s := by
  obtain ⟨xs, e⟩ := hi.allInts.items
  have hn : numsOf (intItems xs).toList = ns := by rw [← e]; exact hi.numsOf
  rw [nums_intItems] at hn
  subst hn
  rw [e] at hl
  have hsz : 0 < xs.size := by simpa using hne
  refine min_intTup hh hl hsz fun v h' tk hv hk => ?_
  obtain ⟨t, rfl⟩ := intItems_at hv
  obtain ⟨h1, h2⟩ := argBest_lt (numAt xs) (xs.size - 1)
  refine h h' tk _ t hk ?_ fun a ha => ?_
  · rw [numAt_eq]; exact PySem.getD_mem (by rw [List.length_map, Array.length_toList]; omega)
  · obtain ⟨j, hj, rfl⟩ := mem_getD ha
    rw [List.length_map, Array.length_toList] at hj
    rw [← numAt_eq]; exact h2 j (by omega)
end
/-- the greatest, the least -/
def maxI : List Int → Int
  | [] => 0
  | [x] => x
  | x :: y :: r => max x (maxI (y :: r))
def minI : List Int → Int
  | [] => 0
  | [x] => x
  | x :: y :: r => min x (minI (y :: r))
theorem maxI_eq : ∀ {ns : List Int} {m : Int}, m ∈ ns → (∀ y, y ∈ ns → y ≤ m) → m = maxI ns
  | [x], m, h, _ => by simpa [maxI] using h
  | x :: y :: r, m, h, k => by
    unfold maxI
    have key : ∀ z, z ∈ y :: r → (∀ u, u ∈ y :: r → u ≤ z) → z = maxI (y :: r) := fun z hz hk => maxI_eq hz hk
    have ex : ∃ z, z ∈ y :: r ∧ ∀ u, u ∈ y :: r → u ≤ z := by
      clear key h k
      induction r generalizing y with
      | nil => exact ⟨y, by simp, fun u hu => by simp at hu; omega⟩
      | cons w r ih =>
        obtain ⟨z, hz, hk⟩ := ih w
        by_cases c : y ≤ z
        · exact ⟨z, List.mem_cons_of_mem _ hz, fun u hu => by
            rcases List.mem_cons.mp hu with rfl | hu
            · exact c
            · exact hk u hu⟩
        · exact ⟨y, List.mem_cons_self, fun u hu => by
            rcases List.mem_cons.mp hu with rfl | hu
            · exact Int.le_refl _
            · have := hk u hu; omega⟩
    obtain ⟨z, hz, hk⟩ := ex
    rw [← key z hz hk]
    have h1 := k x List.mem_cons_self
    have h2 := k z (List.mem_cons_of_mem _ hz)
    rcases List.mem_cons.mp h with rfl | h
    · omega
    · have := hk m h; omega
theorem minI_eq : ∀ {ns : List Int} {m : Int}, m ∈ ns → (∀ y, y ∈ ns → m ≤ y) → m = minI ns
  | [x], m, h, _ => by simpa [minI] using h
  | x :: y :: r, m, h, k => by
    unfold minI
    have key : ∀ z, z ∈ y :: r → (∀ u, u ∈ y :: r → z ≤ u) → z = minI (y :: r) := fun z hz hk => minI_eq hz hk
    have ex : ∃ z, z ∈ y :: r ∧ ∀ u, u ∈ y :: r → z ≤ u := by
      clear key h k
      induction r generalizing y with
      | nil => exact ⟨y, by simp, fun u hu => by simp at hu; omega⟩
      | cons w r ih =>
        obtain ⟨z, hz, hk⟩ := ih w
        by_cases c : z ≤ y
        · exact ⟨z, List.mem_cons_of_mem _ hz, fun u hu => by
            rcases List.mem_cons.mp hu with rfl | hu
            · exact c
            · exact hk u hu⟩
        · exact ⟨y, List.mem_cons_self, fun u hu => by
            rcases List.mem_cons.mp hu with rfl | hu
            · exact Int.le_refl _
            · have := hk u hu; omega⟩
    obtain ⟨z, hz, hk⟩ := ex
    rw [← key z hz hk]
    have h1 := k x List.mem_cons_self
    have h2 := k z (List.mem_cons_of_mem _ hz)
    rcases List.mem_cons.mp h with rfl | h
    · omega
    · have := hk m h; omega
def rMaxS (K : Frg) : List V → Hp → VK → Prop := fun vs H Q => ∃ (a : Addr) (ns : List Int), vs = [V.ref a] ∧ (SqL K H a (ns.map V.int) ∨ SqT K H a (ns.map V.int)) ∧ 0 < ns.length ∧ Q (.int (maxI ns)) H
def rMinS (K : Frg) : List V → Hp → VK → Prop := fun vs H Q => ∃ (a : Addr) (ns : List Int), vs = [V.ref a] ∧ (SqL K H a (ns.map V.int) ∨ SqT K H a (ns.map V.int)) ∧ 0 < ns.length ∧ Q (.int (minI ns)) H
section
variable {X : Cx}
theorem cr_maxS (hc : X.calm = true) : CallR X (.builtin "max") (rMaxS X.K) := by
  intro pins s σ H vs us Q I r h
  obtain ⟨a, ns, rfl, hs, hne, q⟩ := h
  rw [Vals.ref1 r]
  rcases hs with hs | hs
  · obtain ⟨its, rv, hl, _⟩ := I.list hs
    exact max_raw (I.ok.hd hc) hl.isList rv.ints hne fun h' tk m t' hk h1 h2 => ⟨.int _, H, I.kept hk, ⟨_, rfl⟩, by rw [maxI_eq h1 h2]; exact q⟩
  · obtain ⟨its, rv, hl, _⟩ := I.tuple hs
    exact max_rawT (I.ok.hd hc) (show s.heap.IsTuple a its.toArray from hl) rv.ints hne fun h' tk m t' hk h1 h2 => ⟨.int _, H, I.kept hk, ⟨_, rfl⟩, by rw [maxI_eq h1 h2]; exact q⟩
theorem cr_minS (hc : X.calm = true) : CallR X (.builtin "min") (rMinS X.K) := by
  intro pins s σ H vs us Q I r h
  obtain ⟨a, ns, rfl, hs, hne, q⟩ := h
  rw [Vals.ref1 r]
  rcases hs with hs | hs
  · obtain ⟨its, rv, hl, _⟩ := I.list hs
    exact min_raw (I.ok.hd hc) hl.isList rv.ints hne fun h' tk m t' hk h1 h2 => ⟨.int _, H, I.kept hk, ⟨_, rfl⟩, by rw [minI_eq h1 h2]; exact q⟩
  · obtain ⟨its, rv, hl, _⟩ := I.tuple hs
    exact min_rawT (I.ok.hd hc) (show s.heap.IsTuple a its.toArray from hl) rv.ints hne fun h' tk m t' hk h1 h2 => ⟨.int _, H, I.kept hk, ⟨_, rfl⟩, by rw [minI_eq h1 h2]; exact q⟩
end
/-- the whole numbers of a list or a tuple -/
def SeqI (ds : List D) (ns : List Int) : Prop := ds = [.lst (ns.map D.int)] ∨ ds = [.fz (ns.map D.int)] ∨ ds = [.tup (ns.map D.int)]
def maxSD : OpC := fun ds P => ∃ ns : List Int, SeqI ds ns ∧ 0 < ns.length ∧ P (.int (maxI ns))
def minSD : OpC := fun ds P => ∃ ns : List Int, SeqI ds ns ∧ 0 < ns.length ∧ P (.int (minI ns))
theorem seqI_ok {K : Frg} {B : List Addr} {H : Hp} {ns : List Int} {ds : List D} {vs : List V} (h : RepBs K B H ds vs) (e : SeqI ds ns) : ∃ a, vs = [V.ref a] ∧ (SqL K H a (ns.map V.int) ∨ SqT K H a (ns.map V.int)) := by
  rcases e with e | e | rfl
  · obtain ⟨a, e, s⟩ := seq_ints h (.inl e); exact ⟨a, e, .inl s⟩
  · obtain ⟨a, e, s⟩ := seq_ints h (.inr e); exact ⟨a, e, .inl s⟩
  · obtain ⟨v, rfl, h'⟩ := bs1 h
    obtain ⟨a, xs, rfl, s, r⟩ := h'
    rw [reps_ints_inv r] at s
    exact ⟨a, rfl, .inr s⟩
theorem calls_maxS {K : Frg} : CallS K (rMaxS K) maxSD := fun B H vs ds P Q nb rx hop k => by
  obtain ⟨ns, e, h1, h2⟩ := hop
  obtain ⟨a, rfl, s⟩ := seqI_ok rx e
  exact ⟨a, ns, rfl, s, h1, k _ _ H (Go.refl _) rep_int h2⟩
theorem calls_minS {K : Frg} : CallS K (rMinS K) minSD := fun B H vs ds P Q nb rx hop k => by
  obtain ⟨ns, e, h1, h2⟩ := hop
  obtain ⟨a, rfl, s⟩ := seqI_ok rx e
  exact ⟨a, ns, rfl, s, h1, k _ _ H (Go.refl _) rep_int h2⟩
section
variable {X : Cx} {W : WX} {e : Expr} {es : List Expr} {t : TA} {d : DTA} {p pos : Pos}
def de_maxS (hc : X.calm = true) (hm : X.mg "max" = none) (ha : DAB X W (e :: es) t d) (hg : Gl X "max" := by rfl) (he : starEach (e :: es) X.env = (false, eval e X.env) :: starEach es X.env := by rfl) (hpl : (backTo pos (starEach es X.env)).any (·.1) = false := by rfl) :=
  de_cb (p := p) (cr_maxS hc) calls_maxS hg hm (show bootBuiltins "max" = some (.builtin "max") by decide +kernel) ha (by decide) (by decide) he hpl
def de_minS (hc : X.calm = true) (hm : X.mg "min" = none) (ha : DAB X W (e :: es) t d) (hg : Gl X "min" := by rfl) (he : starEach (e :: es) X.env = (false, eval e X.env) :: starEach es X.env := by rfl) (hpl : (backTo pos (starEach es X.env)).any (·.1) = false := by rfl) :=
  de_cb (p := p) (cr_minS hc) calls_minS hg hm (show bootBuiltins "min" = some (.builtin "min") by decide +kernel) ha (by decide) (by decide) he hpl
def de_sumC (hc : X.calm = true) (hm : X.mg "sum" = none) (ha : DAB X W (e :: es) t d) (hg : Gl X "sum" := by rfl) (he : starEach (e :: es) X.env = (false, eval e X.env) :: starEach es X.env := by rfl) (hpl : (backTo pos (starEach es X.env)).any (·.1) = false := by rfl) :=
  de_cb (p := p) (cr_sum hc) calls_sum hg hm (show bootBuiltins "sum" = some (.builtin "sum") by decide +kernel) ha (by decide) (by decide) he hpl
end
end DL
namespace DL
open PySem
def cBody : Stmt → List Stmt
  | .ClassDef (body := b) .. => b
  | _ => []
end DL
namespace DL
open PySem PySem.Spec PyProof.Rows L2
/-- a def that lets nothing out -/
theorem fnOk_0 {P : Program} {w : World} {K : Frg} {mg : Str → Option Value} {base : Heap} {k : Nat} {f : Addr} {fd : FuncData} {ps : List Str} {sp : Sp} (F : FnOk P w K mg base (L2.CX P w) k f fd ps sp) :
    FnOk P w K mg base L2.CX0 k f fd ps (fun vs H Q _ => sp vs H Q fun _ _ _ => False) :=
  ⟨fun vs H Q E h => F.len _ _ _ _ h, fun A outer s H args us vs Q E hr he hb hv hs => codeAny_mono (F.run A outer s H args us vs Q _ hr he hb hv hs) fun r s' h => by
    cases r with
    | ok fl => cases fl <;> exact h
    | error e =>
      have h' : L2.CX P w outer H s (fun _ _ _ => False) e s' := h
      unfold L2.CX at h'
      obtain ⟨_, _, _, _, _, _, _, _, _, _, _, _, h'⟩ := h'
      exact h'⟩
end DL

end

section
/-! The D layer, 11: pure words. -/
namespace DL
open PySem PySem.Spec PyProof.Rows L2
abbrev DDof (fr : Bool) (out : Except Str D) : DEnds := { nx := fun _ => fr = false ∧ out = .ok .non, rt := fun d => out = .ok d, ex := fun c _ => out = .error c }
abbrev DDin (out : Except Str D) : DEnds := { nx := fun ρ => ∃ d, nth ρ 0 = .ow d ∧ out = .ok d, rt := fun _ => False, ex := fun c _ => out = .error c }
theorem for_intro {t : DTA} {g : DTG} {b : DTS} {DD : DEnds} {ρ : DEnv} {ds : List D} {ρ1 : DEnv} (Pv : Nat → DEnv → Prop) (ht : ∀ Q : List D → DEnv → Prop, Q ds ρ1 → t ρ Q DD.ex) (h0 : Pv 0 ρ1)
    (hs : ∀ i d ρ, ds[i]? = some d → Pv i ρ → g d ρ fun ρ2 => b { DD with nx := Pv (i + 1), ct := Pv (i + 1), bk := DD.nx } ρ2) (hd : ∀ ρ, Pv ds.length ρ → DD.nx ρ) : dFor t g b DD ρ := ht _ ⟨Pv, h0, hs, hd⟩
/-- what a turn is to reach -/
def WStep (I : DEnv → Prop) (μ : DEnv → Nat) (b : DTS) (DD : DEnds) (ρ ρ1 : DEnv) : Prop := ∃ N : DEnv → Prop, (∀ ρ', N ρ' → ∃ m', m' < μ ρ ∧ (m' = μ ρ' ∧ I ρ')) ∧ b { DD with nx := N, ct := N, bk := DD.nx } ρ1
theorem w_step {I : DEnv → Prop} {μ : DEnv → Nat} {b : DTS} {DD : DEnds} {ρ ρ1 : DEnv} (h : b { DD with nx := fun ρ' => I ρ' ∧ μ ρ' < μ ρ, ct := fun ρ' => I ρ' ∧ μ ρ' < μ ρ, bk := DD.nx } ρ1) : WStep I μ b DD ρ ρ1 := ⟨_, fun ρ' ⟨a, l⟩ => ⟨_, l, rfl, a⟩, h⟩
theorem while_intro {c : DTT} {b : DTS} {DD : DEnds} {ρ : DEnv} (I : DEnv → Prop) (μ : DEnv → Nat) (h0 : I ρ)
    (hs : ∀ ρ, I ρ → c ρ (fun k ρ1 => if k = true then WStep I μ b DD ρ ρ1 else DD.nx ρ1) DD.ex) : dWhile c b DD ρ := by
  refine ⟨fun m ρ => m = μ ρ ∧ I ρ, ⟨_, rfl, h0⟩, ?_⟩
  rintro m ρ ⟨rfl, hI⟩
  exact hs ρ hI
theorem call_intro {S : FS} {t : DTA} {ρ : DEnv} {Q : D → DEnv → Prop} {E : XD} {ρ1 : DEnv} (a : S.α) (ht : ∀ Q' : List D → DEnv → Prop, Q' (S.args a) ρ1 → t ρ Q' E) (hp : S.pre a) (hq : Ends2 (S.out a) (fun d => Q d ρ1) fun c => E c ρ1) : dCall S t ρ Q E :=
  ht _ ⟨a, rfl, hp, hq⟩
theorem lc_intro {t : DTA} {g : DTG} {tt : DTT} {te : DTE} {vs : List Nat} {ρ : DEnv} {Q : D → DEnv → Prop} {E : XD} {ds : List D} {ρ1 : DEnv} (Pv : Nat → List D → DEnv → Prop) (ht : ∀ Q' : List D → DEnv → Prop, Q' ds ρ1 → t ρ Q' E) (h0 : Pv 0 [] (wipeD ρ1 vs))
    (hs : ∀ i d acc ρ, ds[i]? = some d → Pv i acc ρ → g d ρ fun ρ2 => tt ρ2 (fun b ρ3 => if b = true then te ρ3 (fun y ρ4 => acc.length < sizeLine ∧ Pv (i + 1) (acc ++ [y]) (wipeD ρ4 vs)) (fun _ _ => False) else Pv (i + 1) acc (wipeD ρ3 vs)) (fun _ _ => False))
    (hd : ∀ acc ρ, Pv ds.length acc ρ → Q (.lst acc) (backD ρ1 ρ vs)) : dLc t g tt te vs ρ Q E := ht _ ⟨Pv, h0, hs, hd⟩
/-! where the environment stays -/
theorem for_i {t : DTA} {g : DTG} {b : DTS} {DD : DEnds} {ρ : DEnv} (ds : List D) (Pv : Nat → DEnv → Prop) (ht : ∀ Q : List D → DEnv → Prop, Q ds ρ → t ρ Q DD.ex) (h0 : Pv 0 ρ)
    (hs : ∀ i d ρ, ds[i]? = some d → Pv i ρ → g d ρ fun ρ2 => b { DD with nx := Pv (i + 1), ct := Pv (i + 1), bk := DD.nx } ρ2) (hd : ∀ ρ, Pv ds.length ρ → DD.nx ρ) : dFor t g b DD ρ := for_intro Pv ht h0 hs hd
theorem call_i {S : FS} {t : DTA} {ρ : DEnv} {Q : D → DEnv → Prop} {E : XD} (a : S.α) (ht : ∀ Q' : List D → DEnv → Prop, Q' (S.args a) ρ → t ρ Q' E) (hp : S.pre a) (hq : Ends2 (S.out a) (fun d => Q d ρ) fun c => E c ρ) : dCall S t ρ Q E := call_intro a ht hp hq
theorem lc_i {t : DTA} {g : DTG} {tt : DTT} {te : DTE} {vs : List Nat} {ρ : DEnv} {Q : D → DEnv → Prop} {E : XD} (ds : List D) (Pv : Nat → List D → DEnv → Prop) (ht : ∀ Q' : List D → DEnv → Prop, Q' ds ρ → t ρ Q' E) (h0 : Pv 0 [] (wipeD ρ vs))
    (hs : ∀ i d acc ρ, ds[i]? = some d → Pv i acc ρ → g d ρ fun ρ2 => tt ρ2 (fun b ρ3 => if b = true then te ρ3 (fun y ρ4 => acc.length < sizeLine ∧ Pv (i + 1) (acc ++ [y]) (wipeD ρ4 vs)) (fun _ _ => False) else Pv (i + 1) acc (wipeD ρ3 vs)) (fun _ _ => False))
    (hd : ∀ acc ρ', Pv ds.length acc ρ' → Q (.lst acc) (backD ρ ρ' vs)) : dLc t g tt te vs ρ Q E := lc_intro Pv ht h0 hs hd
/-- a comprehension that maps -/
theorem lc_map {t : DTA} {g : DTG} {te : DTE} {vs : List Nat} {ρ : DEnv} {Q : D → DEnv → Prop} {E : XD} (ds : List D) (f : D → D) (ht : ∀ Q' : List D → DEnv → Prop, Q' ds ρ → t ρ Q' E) (hl : ds.length ≤ sizeLine)
    (hs : ∀ d, d ∈ ds → ∀ Q' : D → DEnv → Prop, (∀ ρ4, wipeD ρ4 vs = wipeD ρ vs → Q' (f d) ρ4) → g d (wipeD ρ vs) fun ρ2 => te ρ2 Q' (fun _ _ => False))
    (hd : Q (.lst (ds.map f)) (backD ρ (wipeD ρ vs) vs)) : dLc t g dYes te vs ρ Q E := by
  refine lc_i ds (fun i acc ρ' => acc = (ds.take i).map f ∧ ρ' = wipeD ρ vs) ht ⟨by simp, rfl⟩ ?_ ?_
  · rintro i d acc ρ' hd ⟨rfl, rfl⟩
    have hi : i < ds.length := (List.getElem?_eq_some_iff.mp hd).1
    refine hs d (List.mem_of_getElem? hd) _ fun ρ4 e => ⟨?_, ?_, e⟩
    · simp; omega
    · rw [List.take_succ, hd]; simp
  · rintro acc ρ' ⟨rfl, rfl⟩
    rw [List.take_length]
    exact hd
theorem rangeD_at {lo : Int} {n i : Nat} {d : D} (h : (rangeD lo n)[i]? = some d) : d = .int (lo + i) ∧ i < n := by
  have hl : i < n := by
    have := (List.getElem?_eq_some_iff.mp h).1
    rwa [rangeD_len] at this
  refine ⟨?_, hl⟩
  unfold rangeD at h
  rw [List.getElem?_map, List.getElem?_range hl] at h
  exact (Option.some.inj h).symm
/-! places -/
section
variable {α : Type} {a b c : α} {l : List α}
theorem at_0 : L2.atI (a :: l) 0 = some a := by
  unfold L2.atI L2.ixN
  simp
theorem ixN_nat {n k : Nat} (h : k < n) : L2.ixN n (k : Int) = some k := by
  unfold L2.ixN
  have h1 : ¬ ((k : Int) < 0) := by omega
  have h2 : (0 : Int) ≤ k ∧ (k : Int) < n := by omega
  simp [h]
theorem at_n {l : List α} {k : Nat} (h : k < l.length) : L2.atI l (k : Int) = some l[k] := by
  unfold L2.atI
  rw [ixN_nat h]
  simp [h]
theorem at_1 : L2.atI (a :: b :: l) 1 = some b := at_n (l := a :: b :: l) (k := 1) (by simp)
theorem at_2 : L2.atI (a :: b :: c :: l) 2 = some c := at_n (l := a :: b :: c :: l) (k := 2) (by simp)
theorem ixN_last {n : Nat} (h : 0 < n) : L2.ixN n (-1) = some (n - 1) := by
  unfold L2.ixN
  have h1 : (-1 : Int) < 0 := by decide
  have h3 : (-1 + (n : Int)).toNat = n - 1 := by omega
  simp [h1]
  omega
theorem at_last {l : List α} (h : l ≠ []) : L2.atI l (-1) = some (l.getLast h) := by
  unfold L2.atI
  have hl : 0 < l.length := List.length_pos_iff.mpr h
  rw [ixN_last hl]
  simp [List.getLast_eq_getElem]
end
/-! numbers -/
theorem log2_lt {n k : Nat} (h : n < 2 ^ k) (hk : 0 < k) : n.log2 < k := by
  by_cases h0 : n = 0
  · subst h0; simpa using hk
  · exact (Nat.log2_lt h0).mpr h
theorem div_big {i j : Int} (h : j.natAbs < 2 ^ 8900) : Builtin.divisionGoesByPylong i j = false := by
  unfold Builtin.divisionGoesByPylong
  have : (if j == 0 then 0 else j.natAbs.log2 / 30 + 1) ≤ 300 := by
    split
    · omega
    · have := log2_lt h (by decide)
      omega
  simp only [Bool.and_eq_false_imp, decide_eq_true_eq]
  intro h'
  omega
theorem div_small {i j : Int} (h : j.natAbs < 2 ^ 250) : Builtin.divisionGoesByPylong i j = false := div_big (Nat.lt_of_lt_of_le h (Nat.pow_le_pow_right (by decide) (by decide)))
theorem bits_le {i : Int} {k : Nat} (h : i.natAbs < 2 ^ k) : Builtin.Int.intBits i ≤ k := by
  unfold Builtin.Int.intBits
  split
  · omega
  · rename_i h0
    have h1 : i.natAbs ≠ 0 := fun e => h0 (by simp [Int.natAbs_eq_zero.mp e])
    have := (Nat.log2_lt h1).mpr h
    omega
theorem mul_ok {i j : Int} (a b : Nat) (hi : i.natAbs < 2 ^ a) (hj : j.natAbs < 2 ^ b) (hab : a + b ≤ 2 ^ 26) : IntMulOk i j := by
  unfold IntMulOk Builtin.Int.intTooBig
  have h1 := bits_le hi
  have h2 := bits_le hj
  have h3 : (decide (((Builtin.Int.intBits i + Builtin.Int.intBits j : Nat) : Int) > bitsLine)) = false := by
    refine decide_eq_false ?_
    have : (2 ^ 26 : Int) ≤ bitsLine := by decide
    omega
  intro h
  simp only [Bool.and_eq_true] at h
  have h4 := h.2
  rw [show ((Builtin.Int.intBits i : Int) + (Builtin.Int.intBits j : Int)) = ((Builtin.Int.intBits i + Builtin.Int.intBits j : Nat) : Int) from by omega] at h4
  rw [h3] at h4
  cases h4
theorem mul_l {i j : Int} (hi : i.natAbs < 2 ^ 64) : IntMulOk i j := IntMulOk.of_left (bits_le hi)
theorem mul_r {i j : Int} (hj : j.natAbs < 2 ^ 64) : IntMulOk i j := IntMulOk.of_right (bits_le hj)
/-! ### steps -/
/-- t's value -/
def Ev (t : DTE) (ρ : DEnv) (d : D) (ρ' : DEnv) : Prop := ∀ (Q : D → DEnv → Prop) (E : XD), Q d ρ' → t ρ Q E
def EvT (t : DTT) (ρ : DEnv) (b : Bool) (ρ' : DEnv) : Prop := ∀ (Q : Bool → DEnv → Prop) (E : XD), Q b ρ' → t ρ Q E
def EvA (t : DTA) (ρ : DEnv) (ds : List D) (ρ' : DEnv) : Prop := ∀ (Q : List D → DEnv → Prop) (E : XD), Q ds ρ' → t ρ Q E
/-- t raises -/
def EvX (t : DTE) (ρ : DEnv) (c : Str) (ρ' : DEnv) : Prop := ∀ (Q : D → DEnv → Prop) (E : XD), E c ρ' → t ρ Q E
section
variable {t : DTE} {c : DTT} {u v w : DTS} {DD : DEnds} {ρ ρ' : DEnv} {d : D} {i : Nat} {b : Bool} {ds : List D} {x : Str}
theorem toSeq (h : dSeq u dNext DD ρ) : u DD ρ := h
theorem s_set' (h : Ev t ρ d ρ') (k : w DD (ρ'.set i (.sh d))) : dSeq (dSet i t) w DD ρ := h _ _ k
theorem s_set (h : Ev t ρ d ρ) (k : w DD (ρ.set i (.sh d))) : dSeq (dSet i t) w DD ρ := h _ _ k
theorem s_own' (h : Ev t ρ d ρ') (k : w DD (ρ'.set i (.ow d))) : dSeq (dOwn i t) w DD ρ := h _ _ k
theorem s_own (h : Ev t ρ d ρ) (k : w DD (ρ.set i (.ow d))) : dSeq (dOwn i t) w DD ρ := h _ _ k
theorem s_drop' (h : Ev t ρ d ρ') (k : w DD ρ') : dSeq (dDrop t) w DD ρ := h _ _ k
theorem s_drop (h : Ev t ρ d ρ) (k : w DD ρ) : dSeq (dDrop t) w DD ρ := h _ _ k
theorem s_asg' {g : DTG} (h : Ev t ρ d ρ') (k : g d ρ' (w DD)) : dSeq (dAsg t g) w DD ρ := h _ _ k
theorem s_asg {g : DTG} (h : Ev t ρ d ρ) (k : g d ρ (w DD)) : dSeq (dAsg t g) w DD ρ := h _ _ k
theorem s_par' {ta : DTA} {j : Nat} {d e : D} (h : EvA ta ρ [d, e] ρ') (k : w DD ((ρ'.set i (.sh d)).set j (.sh e))) : dSeq (dPar i j ta) w DD ρ := h _ _ k
theorem s_par {ta : DTA} {j : Nat} {d e : D} (h : EvA ta ρ [d, e] ρ) (k : w DD ((ρ.set i (.sh d)).set j (.sh e))) : dSeq (dPar i j ta) w DD ρ := h _ _ k
theorem s_aug' {op : Op2} {d e : D} (hn : nth ρ i = .sh d) (h : Ev t ρ e ρ') (k : op d e fun c => w DD (ρ'.set i (.sh c))) : dSeq (dAug i op t) w DD ρ := by
  show dAug i op t { DD with nx := w DD } ρ
  unfold dAug
  rw [hn]
  exact h _ _ k
theorem s_aug {op : Op2} {d e : D} (hn : nth ρ i = .sh d) (h : Ev t ρ e ρ) (k : op d e fun c => w DD (ρ.set i (.sh c))) : dSeq (dAug i op t) w DD ρ := by
  show dAug i op t { DD with nx := w DD } ρ
  unfold dAug
  rw [hn]
  exact h _ _ k
theorem s_app' {ds0 : List D} (hn : nth ρ i = .ow (.lst ds0)) (h : Ev t ρ d ρ') (hn' : nth ρ' i = .ow (.lst ds)) (hl : ds.length < sizeLine) (k : w DD (ρ'.set i (.ow (.lst (ds ++ [d]))))) : dSeq (dApp i t) w DD ρ := by
  show dApp i t { DD with nx := w DD } ρ
  unfold dApp
  rw [hn]
  refine h _ _ ?_
  show (match nth ρ' i with | .ow (.lst ds) => _ | _ => _)
  rw [hn']
  exact ⟨hl, k⟩
theorem s_app (hn : nth ρ i = .ow (.lst ds)) (hl : ds.length < sizeLine) (h : Ev t ρ d ρ) (k : w DD (ρ.set i (.ow (.lst (ds ++ [d]))))) : dSeq (dApp i t) w DD ρ := s_app' hn h hn hl k
theorem s_if' (h : EvT c ρ b ρ') (k : if b = true then dSeq u w DD ρ' else dSeq v w DD ρ') : dSeq (dIfS c u v) w DD ρ := h _ _ k
theorem s_if (h : EvT c ρ b ρ) (k : if b = true then dSeq u w DD ρ else dSeq v w DD ρ) : dSeq (dIfS c u v) w DD ρ := h _ _ k
theorem s_ifT' (h : EvT c ρ true ρ') (k : dSeq u w DD ρ') : dSeq (dIfS c u v) w DD ρ := h _ _ k
theorem s_ifT (h : EvT c ρ true ρ) (k : dSeq u w DD ρ) : dSeq (dIfS c u v) w DD ρ := h _ _ k
theorem s_ifF' (h : EvT c ρ false ρ') (k : dSeq v w DD ρ') : dSeq (dIfS c u v) w DD ρ := h _ _ k
theorem s_ifF (h : EvT c ρ false ρ) (k : dSeq v w DD ρ) : dSeq (dIfS c u v) w DD ρ := h _ _ k
theorem s_next (k : w DD ρ) : dSeq dNext w DD ρ := k
theorem s_seq {v : DTS} (k : dSeq u (dSeq v w) DD ρ) : dSeq (dSeq u v) w DD ρ := k
theorem s_ret' (h : Ev t ρ d ρ') (k : DD.rt d) : dSeq (dRet t) w DD ρ := h _ _ k
theorem s_ret (h : Ev t ρ d ρ) (k : DD.rt d) : dSeq (dRet t) w DD ρ := h _ _ k
theorem e_ret' (h : Ev t ρ d ρ') (k : DD.rt d) : dRet t DD ρ := h _ _ k
theorem e_ret (h : Ev t ρ d ρ) (k : DD.rt d) : dRet t DD ρ := h _ _ k
theorem e_retX' (h : EvX t ρ x ρ') (k : DD.ex x ρ') : dRet t DD ρ := h _ _ k
theorem e_retX (h : EvX t ρ x ρ) (k : DD.ex x ρ) : dRet t DD ρ := h _ _ k
theorem s_raise (k : DD.ex x ρ) : dSeq (dRaise x) w DD ρ := k
theorem e_next (k : DD.nx ρ) : dNext DD ρ := k
theorem g_name {P : DEnv → Prop} (k : P (ρ.set i (.sh d))) : dgName i d ρ P := k
theorem ev_call' {S : FS} {ta : DTA} (a : S.α) (h : EvA ta ρ (S.args a) ρ') (hp : S.pre a) (ho : S.out a = .ok d) : Ev (dCall S ta) ρ d ρ' := fun Q E k => h _ _ ⟨a, rfl, hp, by rw [ho]; exact k⟩
theorem ev_call {S : FS} {ta : DTA} (a : S.α) (h : EvA ta ρ (S.args a) ρ) (hp : S.pre a) (ho : S.out a = .ok d) : Ev (dCall S ta) ρ d ρ := fun Q E k => h _ _ ⟨a, rfl, hp, by rw [ho]; exact k⟩
theorem ev_callX' {S : FS} {ta : DTA} (a : S.α) (h : EvA ta ρ (S.args a) ρ') (hp : S.pre a) (ho : S.out a = .error x) : EvX (dCall S ta) ρ x ρ' := fun Q E k => h _ _ ⟨a, rfl, hp, by rw [ho]; exact k⟩

theorem ev_callX {S : FS} {ta : DTA} (a : S.α) (h : EvA ta ρ (S.args a) ρ) (hp : S.pre a) (ho : S.out a = .error x) : EvX (dCall S ta) ρ x ρ := fun Q E k => h _ _ ⟨a, rfl, hp, by rw [ho]; exact k⟩
theorem evt_test (h : Ev t ρ (.bl b) ρ) : EvT (dTest t) ρ b ρ := fun Q E k => h _ _ k
theorem evt_tru (h : Ev t ρ (.bl b) ρ) : EvT (dTru t) ρ b ρ := fun Q E k => h _ _ k
theorem evt_not {c : DTT} (h : EvT c ρ b ρ) : EvT (dNotT c) ρ (!b) ρ := fun Q E k => h _ _ k
theorem evt_or {c e : DTT} {b2 : Bool} (h : EvT c ρ b ρ) (h2 : b = false → EvT e ρ b2 ρ) : EvT (dOrT c e) ρ (b || b2) ρ := fun Q E k => h _ _ (by
  cases b with
  | true => rw [if_pos rfl]; exact k
  | false => rw [if_neg Bool.false_ne_true]; exact h2 rfl _ _ k)
theorem evt_and {c e : DTT} {b2 : Bool} (h : EvT c ρ b ρ) (h2 : b = true → EvT e ρ b2 ρ) : EvT (dAndT c e) ρ (b && b2) ρ := fun Q E k => h _ _ (by
  cases b with
  | true => rw [if_pos rfl]; exact h2 rfl _ _ k
  | false => rw [if_neg Bool.false_ne_true]; exact k)
theorem ev_op {op : Op2} {a b : DTE} {d e r : D} (ha : Ev a ρ d ρ) (hb : Ev b ρ e ρ) (ho : ∀ P : D → Prop, P r → op d e P) : Ev (dOp op a b) ρ r ρ := fun Q E k => ha _ _ (hb _ _ (ho _ k))
theorem ev_if {c : DTT} {a e : DTE} (hc : EvT c ρ b ρ) (h : if b = true then Ev a ρ d ρ else Ev e ρ d ρ) : Ev (dIf c a e) ρ d ρ := fun Q E k => hc _ _ (by
  cases b with
  | true => rw [if_pos rfl] at h ⊢; exact h _ _ k
  | false => rw [if_neg Bool.false_ne_true] at h ⊢; exact h _ _ k)
theorem eva_nil : EvA dNil ρ [] ρ := fun Q E k => k
theorem eva_cons {a : DTE} {r : DTA} (h : Ev a ρ d ρ) (h2 : EvA r ρ ds ρ) : EvA (dCons a r) ρ (d :: ds) ρ := fun Q E k => h _ _ (h2 _ _ k)
theorem ev_tup {r : DTA} (h : EvA r ρ ds ρ) (hl : ds.length ≤ sizeLine) : Ev (dTup r) ρ (.tup ds) ρ := fun Q E k => h _ _ ⟨hl, k⟩
theorem ev_lst {r : DTA} (h : EvA r ρ ds ρ) (hl : ds.length ≤ sizeLine) : Ev (dLst r) ρ (.lst ds) ρ := fun Q E k => h _ _ ⟨hl, k⟩
theorem ev_cb {op : OpC} {r : DTA} (h : EvA r ρ ds ρ) (ho : ∀ P : D → Prop, P d → op ds P) : Ev (dCB op r) ρ d ρ := fun Q E k => h _ _ (ho _ k)
theorem ev_bm {op : OpM} {a : DTE} {r : DTA} {z : Str} (h : Ev a ρ (.str z) ρ) (h2 : EvA r ρ ds ρ) (ho : ∀ P : D → Prop, P d → op (.str z) ds P) : Ev (dBM op a r) ρ d ρ := fun Q E k => h _ _ (h2 _ _ (ho _ k))
theorem ev_lcmap {ta : DTA} {g : DTG} {te : DTE} {vs : List Nat} (ds : List D) (f : D → D) (ht : EvA ta ρ ds ρ) (hl : ds.length ≤ sizeLine)
    (hs : ∀ d, d ∈ ds → ∀ Q' : D → DEnv → Prop, (∀ ρ4, wipeD ρ4 vs = wipeD ρ vs → Q' (f d) ρ4) → g d (wipeD ρ vs) fun ρ2 => te ρ2 Q' (fun _ _ => False)) : Ev (dLc ta g dYes te vs) ρ (.lst (ds.map f)) (backD ρ (wipeD ρ vs) vs) := fun Q E k =>
  lc_map ds f (fun Q' h => ht Q' E h) hl hs k
theorem ev_meth {C m : Str} {S : FS} {a : DTE} {r : DTA} {fs : List (Str × D)} (h : Ev a ρ (.ins C fs) ρ) (hm : fs.lookup m = none) (h2 : EvA r ρ ds ρ) (x : S.α) (hx : .ins C fs :: ds = S.args x) (hp : S.pre x) (ho : S.out x = .ok d) : Ev (dMeth C m S a r) ρ d ρ := fun Q E k =>
  h _ _ ⟨rfl, hm, h2 _ _ ⟨x, hx, hp, by rw [ho]; exact k⟩⟩
theorem ev_lcm {ta : DTA} {g : DTG} {te : DTE} {vs : List Nat} (ds : List D) (f : D → D) (ht : EvA ta ρ ds ρ) (hl : ds.length ≤ sizeLine)
    (hs : ∀ d, d ∈ ds → ∀ Q' : D → DEnv → Prop, (∀ ρ4, wipeD ρ4 vs = wipeD ρ vs → Q' (f d) ρ4) → g d (wipeD ρ vs) fun ρ2 => te ρ2 Q' (fun _ _ => False)) (hb : backD ρ (wipeD ρ vs) vs = ρ := by rfl) : Ev (dLc ta g dYes te vs) ρ (.lst (ds.map f)) ρ := by
  have h := ev_lcmap (vs := vs) ds f ht hl hs
  rw [hb] at h
  exact h
end
end DL

end

section
/-! The D layer, 12: == of data. -/
namespace DL
open PySem PySem.Spec PyProof.Rows L2
def okN (n : Nat) (d : D) : Prop := isPd d = true ∧ (pd d).canLay0 = true ∧ (pd d).depth ≤ n
theorem okN.ok {n : Nat} {d : D} (h : okN n d) (hn : n ≤ 64 := by decide) : okD d := ⟨h.1, by unfold SeqAt.shaped; rw [h.2.1, decide_eq_true (Nat.le_trans h.2.2 hn)]; rfl⟩
theorem okN_int {n : Nat} {i : Int} : okN n (.int i) := ⟨by unfold isPd; rfl, by unfold pd PyData.canLay0; rfl, by unfold pd PyData.depth; exact Nat.zero_le _⟩
theorem okN_str {n : Nat} {x : Str} (h : PyData.strOk x = true) : okN n (.str x) := ⟨by unfold isPd; rfl, by unfold pd PyData.canLay0; exact h, by unfold pd PyData.depth; exact Nat.zero_le _⟩
theorem okN_non {n : Nat} : okN n .non := ⟨by unfold isPd; rfl, by unfold pd PyData.canLay0; rfl, by unfold pd PyData.depth; exact Nat.zero_le _⟩
theorem oks {n : Nat} : ∀ {ds : List D}, (∀ d ∈ ds, okN n d) → isPds ds = true ∧ PyData.canLayAll0 (pds ds) = true ∧ PyData.depthAll (pds ds) ≤ n
  | [], _ => ⟨by unfold isPds; rfl, by unfold pds PyData.canLayAll0; rfl, by unfold pds PyData.depthAll; exact Nat.zero_le _⟩
  | d :: ds, h => by
    obtain ⟨h1, h2, h3⟩ := oks fun e m => h e (List.mem_cons_of_mem _ m)
    obtain ⟨g1, g2, g3⟩ := h d List.mem_cons_self
    refine ⟨by unfold isPds; rw [g1, h1]; rfl, by unfold pds PyData.canLayAll0; rw [g2, h2]; rfl, by unfold pds PyData.depthAll; exact Nat.max_le.mpr ⟨g3, h3⟩⟩
theorem okN_tup {n : Nat} {ds : List D} (h : ∀ d ∈ ds, okN n d) : okN (n + 1) (.tup ds) := by
  obtain ⟨h1, h2, h3⟩ := oks h
  exact ⟨by unfold isPd; exact h1, by unfold pd PyData.canLay0; exact h2, by unfold pd PyData.depth; omega⟩
theorem okN_lst {n : Nat} {ds : List D} (h : ∀ d ∈ ds, okN n d) : okN (n + 1) (.lst ds) := by
  obtain ⟨h1, h2, h3⟩ := oks h
  exact ⟨by unfold isPd; exact h1, by unfold pd PyData.canLay0; exact h2, by unfold pd PyData.depth; omega⟩
mutual
theorem eqv_self : ∀ d : D, isPd d = true → PyData.eqv (pd d) (pd d) = true
  | .non, _ => by unfold pd PyData.eqv; rfl
  | .bl b, _ => by unfold pd PyData.eqv; simp
  | .int i, _ => by unfold pd PyData.eqv; simp
  | .str x, _ => by unfold pd PyData.eqv; simp
  | .tup ds, h => by unfold isPd at h; unfold pd PyData.eqv; exact eqvs_self ds h
  | .lst ds, h => by unfold isPd at h; unfold pd PyData.eqv; exact eqvs_self ds h
  | .fz ds, h => by unfold isPd at h; unfold pd PyData.eqv; exact eqvs_self ds h
  | .dT _, h => by unfold isPd at h; cases h
  | .dK _, h => by unfold isPd at h; cases h
  | .ins _ _, h => by unfold isPd at h; cases h
  | .exc _, h => by unfold isPd at h; cases h
theorem eqvs_self : ∀ ds : List D, isPds ds = true → PyData.eqvAll (pds ds) (pds ds) = true
  | [], _ => by unfold pds PyData.eqvAll; rfl
  | d :: ds, h => by
    unfold isPds at h
    obtain ⟨h1, h2⟩ := Bool.and_eq_true_iff.mp h
    unfold pds PyData.eqvAll
    rw [eqv_self d h1, eqvs_self ds h2]
    rfl
end
theorem eqv_nil {ds : List D} : PyData.eqv (pd (.lst ds)) (pd (.lst [])) = ds.isEmpty := by
  unfold pd PyData.eqv
  cases ds with
  | nil => unfold pds PyData.eqvAll; rfl
  | cons d r => unfold pds PyData.eqvAll; rfl
theorem eq_lst {ds es : List D} {b : Bool} {P : D → Prop} (h1 : okD (.lst ds)) (h2 : okD (.lst es)) (e : PyData.eqv (pd (.lst ds)) (pd (.lst es)) = b) (h : P (.bl b)) : eqD (.lst ds) (.lst es) P := ⟨h1, h2, by rw [e]; exact h⟩
theorem ne_lst {ds es : List D} {b : Bool} {P : D → Prop} (h1 : okD (.lst ds)) (h2 : okD (.lst es)) (e : PyData.eqv (pd (.lst ds)) (pd (.lst es)) = b) (h : P (.bl (!b))) : neD (.lst ds) (.lst es) P := ⟨h1, h2, by rw [e]; exact h⟩
/-- a comprehension, place by place -/
theorem ev_lcz {ta : DTA} {g : DTG} {te : DTE} {vs : List Nat} {ρ : DEnv} (ds rs : List D) (ht : EvA ta ρ ds ρ) (he : ds.length = rs.length) (hl : ds.length ≤ sizeLine)
    (hs : ∀ (i : Nat) (d r : D), ds[i]? = some d → rs[i]? = some r → ∀ Q' : D → DEnv → Prop, (∀ ρ4, wipeD ρ4 vs = wipeD ρ vs → Q' r ρ4) → g d (wipeD ρ vs) fun ρ2 => te ρ2 Q' (fun _ _ => False)) (hb : backD ρ (wipeD ρ vs) vs = ρ := by rfl) : Ev (dLc ta g dYes te vs) ρ (.lst rs) ρ := fun Q E k => by
  refine lc_i ds (fun i acc ρ' => acc = rs.take i ∧ ρ' = wipeD ρ vs) (fun Q' h => ht Q' E h) ⟨by simp, rfl⟩ ?_ ?_
  · rintro i d acc ρ' hd ⟨rfl, rfl⟩
    have hi : i < ds.length := (List.getElem?_eq_some_iff.mp hd).1
    have hr : rs[i]? = some rs[i] := List.getElem?_eq_getElem (by omega)
    refine hs i d _ hd hr _ fun ρ4 e => ⟨?_, ?_, e⟩
    · simp; omega
    · rw [List.take_succ, hr]; simp
  · rintro acc ρ' ⟨rfl, rfl⟩
    rw [he, List.take_length, hb]
    exact k
theorem ev_lczM {α : Type} {ta : DTA} {g : DTG} {te : DTE} {vs : List Nat} {ρ : DEnv} (xs : List α) (f r : α → D) (ht : EvA ta ρ (xs.map f) ρ) (hl : xs.length ≤ sizeLine)
    (hs : ∀ x, x ∈ xs → ∀ Q' : D → DEnv → Prop, (∀ ρ4, wipeD ρ4 vs = wipeD ρ vs → Q' (r x) ρ4) → g (f x) (wipeD ρ vs) fun ρ2 => te ρ2 Q' (fun _ _ => False)) (hb : backD ρ (wipeD ρ vs) vs = ρ := by rfl) : Ev (dLc ta g dYes te vs) ρ (.lst (xs.map r)) ρ := by
  refine ev_lcz (xs.map f) (xs.map r) ht (by simp) (by simpa using hl) (fun i d q hd hq => ?_) hb
  rw [List.getElem?_map] at hd hq
  cases e : xs[i]? with
  | none => rw [e] at hd; cases hd
  | some x =>
    rw [e] at hd hq
    cases hd
    cases hq
    exact hs x (List.mem_of_getElem? e)
end DL

end

section
namespace T57
open PySem PySem.Spec PyProof.Rows L2 DL
def N__law_cell_at : List Str := ["_law_script", "_law_k"]
def d__law_cell_at : DTS :=
  (dSeq (dIfS (dTest (dOp ltD (dBor 1) (dCB lenD (dCons (dBor 0) dNil)))) (dRet (dOp ixD (dBor 0) (dBor 1))) dNext)
  (dRet (dC (.int 0))))
def cellAt (s : List Int) (k : Nat) : Int := s.getD k 0
def FS__law_cell_at : FS := { α := List Int × Nat, args := fun a => [.fz (a.1.map D.int), .int a.2], pre := fun _ => True, out := fun a => .ok (.int (cellAt a.1 a.2)) }
theorem atI_map {s : List Int} {k : Nat} (h : k < s.length) : L2.atI (s.map D.int) (k : Int) = some (.int (s.getD k 0)) := by
  unfold L2.atI ixN
  rw [List.length_map]
  simp [h]
theorem hm__law_cell_at : ∀ a, FS__law_cell_at.pre a → d__law_cell_at (DDof false (FS__law_cell_at.out a)) (dstart N__law_cell_at (FS__law_cell_at.args a)) := by
  rintro ⟨s, k⟩ _
  unfold d__law_cell_at FS__law_cell_at N__law_cell_at
  simp only [dSeq, dNext, dSet, dOwn, dRet, dRetN, dIfS, dDrop, dAsg, dPar, dAug, dSetIx, dApp, dClear, dRaise, dTest, dTru, truD, dAndT, dOrT, dNotT, dIf, dAndV, dOrV, dNotV, dOp, dUn, dCB, dBM, dNilA, dVar, dBor, dGive, dC, dCons, dNil, dTup, dLst, dSl, dPart, dNoPart, dIsi, nth, dstart, istart, dFld, dFldSet, putD, dgName, dgTup, dgCons, dgNil, dItL, dItT, dItS, dItR1, dItR2, dItE, dItZ, dYes, dMeth, dOr, Ends2, addD, iaddD, imulD, subD, mulD, fdivD, modD, powD, cmpD, eqD, neD, isD, isNotD, negD, absD, lenD, max2D, min2D, DL.intD, strD, tupleD, listD, catD, repD, slD, slDL, ixD, inSD, notInSD, startswithD, endswithD, findD, isdigitD, splitD, partitionD, joinD, lstripD, List.map_cons, List.map_nil, List.length_cons, List.length_nil, List.cons_append, List.nil_append, List.set_cons_zero, List.set_cons_succ, Nat.reduceAdd, Nat.reduceSub, List.replicate_succ, List.replicate_zero, List.tail_cons, Bool.false_eq_true, if_true, if_false, ite_true, ite_false, reduceIte, true_and, and_true, Bool.not_true, Bool.not_false, decide_eq_true_eq, Bool.not_eq_true', decide_eq_false_iff_not, ne_eq, reduceCtorEq, not_false_eq_true, DL.MulOk, at_0, at_1, at_2, Option.some.injEq, exists_eq_left, exists_eq_left', Int.reduceAdd, Int.reduceSub, Int.reduceMul, Int.reduceNeg, Int.reduceToNat, Int.reduceEq, Int.reduceLT, Int.reduceLE, Nat.reduceLeDiff, Nat.reduceLT, Nat.reduceEqDiff, sizeLine_eq, List.length_map]
  split
  · rename_i h
    refine ⟨_, atI_map (by omega), rfl⟩
  · rename_i h
    unfold cellAt
    rw [List.getD_eq_getElem?_getD, List.getElem?_eq_none (by omega)]
    rfl
def N__law_number : List Str := ["_law_cell", "_law_most"]
def d__law_number : DTS :=
  (dSeq (dIfS (dTest (dOp eqD (dOp modD (dBor 0) (dC (.int 3))) (dC (.int 0)))) (dRet (dOp addD (dOp subD (dOp modD (dOp fdivD (dBor 0) (dC (.int 3))) (dOp subD (dOp mulD (dC (.int 2)) (dBor 1)) (dC (.int 1)))) (dBor 1)) (dC (.int 1)))) dNext)
  (dSeq (dIfS (dTest (dOp eqD (dOp modD (dBor 0) (dC (.int 3))) (dC (.int 1)))) (dRet (dOp subD (dOp modD (dOp fdivD (dBor 0) (dC (.int 3))) (dC (.int 2001))) (dC (.int 1000)))) dNext)
  (dRet (dOp subD (dOp modD (dOp fdivD (dBor 0) (dC (.int 3))) (dC (.int 5))) (dC (.int 2))))))
def mNum (c m : Int) : Int := if c.fmod 3 = 0 then (c.fdiv 3).fmod (2 * m - 1) - m + 1 else if c.fmod 3 = 1 then (c.fdiv 3).fmod 2001 - 1000 else (c.fdiv 3).fmod 5 - 2
def FS__law_number : FS := { α := Int × Int, args := fun a => [.int a.1, .int a.2], pre := fun a => 1 ≤ a.2 ∧ a.2 < 2 ^ 250, out := fun a => .ok (.int (mNum a.1 a.2)) }
theorem hm__law_number : ∀ a, FS__law_number.pre a → d__law_number (DDof false (FS__law_number.out a)) (dstart N__law_number (FS__law_number.args a)) := by
  rintro ⟨c, m⟩ ⟨h1, h2⟩
  unfold d__law_number FS__law_number N__law_number mNum
  have hd : Builtin.divisionGoesByPylong c 3 = false := div_small (by decide)
  simp only [dSeq, dNext, dSet, dOwn, dRet, dRetN, dIfS, dDrop, dAsg, dPar, dAug, dSetIx, dApp, dClear, dRaise, dTest, dTru, truD, dAndT, dOrT, dNotT, dIf, dAndV, dOrV, dNotV, dOp, dUn, dCB, dBM, dNilA, dVar, dBor, dGive, dC, dCons, dNil, dTup, dLst, dSl, dPart, dNoPart, dIsi, nth, dstart, istart, dFld, dFldSet, putD, dgName, dgTup, dgCons, dgNil, dItL, dItT, dItS, dItR1, dItR2, dItE, dItZ, dYes, dMeth, dOr, Ends2, addD, iaddD, imulD, subD, mulD, fdivD, modD, powD, cmpD, eqD, neD, isD, isNotD, negD, absD, lenD, max2D, min2D, DL.intD, strD, tupleD, listD, catD, repD, slD, slDL, ixD, inSD, notInSD, startswithD, endswithD, findD, isdigitD, splitD, partitionD, joinD, lstripD, List.map_cons, List.map_nil, List.length_cons, List.length_nil, List.cons_append, List.nil_append, List.set_cons_zero, List.set_cons_succ, Nat.reduceAdd, Nat.reduceSub, List.replicate_succ, List.replicate_zero, List.tail_cons, Bool.false_eq_true, if_true, if_false, ite_true, ite_false, reduceIte, true_and, and_true, Bool.not_true, Bool.not_false, decide_eq_true_eq, Bool.not_eq_true', decide_eq_false_iff_not, ne_eq, reduceCtorEq, not_false_eq_true, DL.MulOk, at_0, at_1, at_2, Option.some.injEq, exists_eq_left, exists_eq_left', Int.reduceAdd, Int.reduceSub, Int.reduceMul, Int.reduceNeg, Int.reduceToNat, Int.reduceEq, Int.reduceLT, Int.reduceLE, Nat.reduceLeDiff, Nat.reduceLT, Nat.reduceEqDiff, sizeLine_eq, CFdiv, hd]
  have h1 : 1 ≤ m := h1
  have n1 : ¬ (2 * m - 1 = 0) := by omega
  have m2 : IntMulOk 2 m := mul_l (by decide)
  split
  · exact ⟨m2, n1, rfl⟩
  · split <;> rfl
def N__law_mixed : List Str := ["_law_cell", "_law_k", "_law_number_here", "_law_time"]
def d__law_mixed : DTS :=
  (dSeq (dIfS (dTest (dOp eqD (dOp modD (dBor 0) (dC (.int 2))) (dC (.int 0)))) (dSeq (dSet 2 (dOp fdivD (dCB absD (dCons (dBor 0) dNil)) (dC (.int 2))))
  (dSeq (dFor (dItR1 (dCons (dBor 1) dNil)) (dgName 3) (dSet 2 (dOp fdivD (dBor 2) (dOp powD (dC (.int 10)) (dC (.int 12))))))
  (dRet (dVar 2)))) dNext)
  (dSeq (dSet 2 (dOp modD (dOp addD (dBor 0) (dOp mulD (dC (.int 7919)) (dBor 1))) (dC (.int 2147483629))))
  (dSeq (dSet 2 (dOp modD (dOp addD (dOp addD (dOp mulD (dBor 2) (dBor 2)) (dOp mulD (dC (.int 16807)) (dBor 2))) (dBor 1)) (dC (.int 2147483629))))
  (dRet (dOp modD (dOp mulD (dBor 2) (dBor 2)) (dC (.int 2147483587)))))))
def mMix (c : Int) (k : Nat) : Int := if c.fmod 2 = 0 then (List.range k).foldl (fun x _ => x.fdiv (10 ^ 12)) ((if c < 0 then -c else c).fdiv 2) else
  let x := (c + 7919 * k).fmod 2147483629
  let y := (x * x + 16807 * x + k).fmod 2147483629
  (y * y).fmod 2147483587
def FS__law_mixed : FS := { α := Int × Nat, args := fun a => [.int a.1, .int a.2], pre := fun a => a.2 ≤ 63, out := fun a => .ok (.int (mMix a.1 a.2)) }
theorem fmod_lt {a b : Int} (h : 0 < b) : 0 ≤ a.fmod b ∧ a.fmod b < b := ⟨Int.fmod_nonneg_of_pos _ h, Int.fmod_lt_of_pos _ h⟩
theorem sq_ok {a b : Int} (h : 0 < b) (hb : b < 2 ^ 40) : IntMulOk (a.fmod b) (a.fmod b) := by
  have := fmod_lt (a := a) h
  exact mul_l (by omega)
theorem hm__law_mixed : ∀ a, FS__law_mixed.pre a → d__law_mixed (DDof false (FS__law_mixed.out a)) (dstart N__law_mixed (FS__law_mixed.args a)) := by
  rintro ⟨c, k⟩ hk
  have hk : k ≤ 63 := hk
  unfold d__law_mixed FS__law_mixed N__law_mixed mMix
  have hd : ∀ c : Int, Builtin.divisionGoesByPylong c 2 = false := fun c => div_small (by decide)
  have hd2 : ∀ c : Int, Builtin.divisionGoesByPylong c (10 ^ 12) = false := fun c => div_small (by decide)
  simp only [dSeq, dNext, dSet, dOwn, dRet, dRetN, dIfS, dDrop, dAsg, dPar, dAug, dSetIx, dApp, dClear, dRaise, dTest, dTru, truD, dAndT, dOrT, dNotT, dIf, dAndV, dOrV, dNotV, dOp, dUn, dCB, dBM, dNilA, dVar, dBor, dGive, dC, dCons, dNil, dTup, dLst, dSl, dPart, dNoPart, dIsi, nth, dstart, istart, dFld, dFldSet, putD, dgName, dgTup, dgCons, dgNil, dItL, dItT, dItS, dItR1, dItR2, dItE, dItZ, dYes, dMeth, dOr, Ends2, addD, iaddD, imulD, subD, mulD, fdivD, modD, powD, cmpD, eqD, neD, isD, isNotD, negD, absD, lenD, max2D, min2D, DL.intD, strD, tupleD, listD, catD, repD, slD, slDL, ixD, inSD, notInSD, startswithD, endswithD, findD, isdigitD, splitD, partitionD, joinD, lstripD, List.map_cons, List.map_nil, List.length_cons, List.length_nil, List.cons_append, List.nil_append, List.set_cons_zero, List.set_cons_succ, Nat.reduceAdd, Nat.reduceSub, List.replicate_succ, List.replicate_zero, List.tail_cons, Bool.false_eq_true, if_true, if_false, ite_true, ite_false, reduceIte, true_and, and_true, Bool.not_true, Bool.not_false, decide_eq_true_eq, Bool.not_eq_true', decide_eq_false_iff_not, ne_eq, reduceCtorEq, not_false_eq_true, DL.MulOk, at_0, at_1, at_2, Option.some.injEq, exists_eq_left, exists_eq_left', Int.reduceAdd, Int.reduceSub, Int.reduceMul, Int.reduceNeg, Int.reduceToNat, Int.reduceEq, Int.reduceLT, Int.reduceLE, Nat.reduceLeDiff, Nat.reduceLT, Nat.reduceEqDiff, sizeLine_eq, CFdiv, hd, CPowD]
  split
  · refine for_i (rangeD 0 k) (fun i ρ => ∃ s, ρ = [.sh (.int c), .sh (.int k), .sh (.int ((List.range i).foldl (fun x _ => x.fdiv (10 ^ 12)) ((if c < 0 then -c else c).fdiv 2))), s]) (fun Q hq => ?_) ?_ ?_ ?_
    · simp only [dSeq, dNext, dSet, dOwn, dRet, dRetN, dIfS, dDrop, dAsg, dPar, dAug, dSetIx, dApp, dClear, dRaise, dTest, dTru, truD, dAndT, dOrT, dNotT, dIf, dAndV, dOrV, dNotV, dOp, dUn, dCB, dBM, dNilA, dVar, dBor, dGive, dC, dCons, dNil, dTup, dLst, dSl, dPart, dNoPart, dIsi, nth, dstart, istart, dFld, dFldSet, putD, dgName, dgTup, dgCons, dgNil, dItL, dItT, dItS, dItR1, dItR2, dItE, dItZ, dYes, dMeth, dOr, Ends2, addD, iaddD, imulD, subD, mulD, fdivD, modD, powD, cmpD, eqD, neD, isD, isNotD, negD, absD, lenD, max2D, min2D, DL.intD, strD, tupleD, listD, catD, repD, slD, slDL, ixD, inSD, notInSD, startswithD, endswithD, findD, isdigitD, splitD, partitionD, joinD, lstripD, List.map_cons, List.map_nil, List.length_cons, List.length_nil, List.cons_append, List.nil_append, List.set_cons_zero, List.set_cons_succ, Nat.reduceAdd, Nat.reduceSub, List.replicate_succ, List.replicate_zero, List.tail_cons, Bool.false_eq_true, if_true, if_false, ite_true, ite_false, reduceIte, true_and, and_true, Bool.not_true, Bool.not_false, decide_eq_true_eq, Bool.not_eq_true', decide_eq_false_iff_not, ne_eq, reduceCtorEq, not_false_eq_true, DL.MulOk, at_0, at_1, at_2, Option.some.injEq, exists_eq_left, exists_eq_left', Int.reduceAdd, Int.reduceSub, Int.reduceMul, Int.reduceNeg, Int.reduceToNat, Int.reduceEq, Int.reduceLT, Int.reduceLE, Nat.reduceLeDiff, Nat.reduceLT, Nat.reduceEqDiff, sizeLine_eq]
      exact ⟨by omega, by omega, by simpa using hq⟩
    · exact ⟨_, rfl⟩
    · rintro i d ρ hd' ⟨s, rfl⟩
      obtain ⟨rfl, hi⟩ := rangeD_at hd'
      simp only [dSeq, dNext, dSet, dOwn, dRet, dRetN, dIfS, dDrop, dAsg, dPar, dAug, dSetIx, dApp, dClear, dRaise, dTest, dTru, truD, dAndT, dOrT, dNotT, dIf, dAndV, dOrV, dNotV, dOp, dUn, dCB, dBM, dNilA, dVar, dBor, dGive, dC, dCons, dNil, dTup, dLst, dSl, dPart, dNoPart, dIsi, nth, dstart, istart, dFld, dFldSet, putD, dgName, dgTup, dgCons, dgNil, dItL, dItT, dItS, dItR1, dItR2, dItE, dItZ, dYes, dMeth, dOr, Ends2, addD, iaddD, imulD, subD, mulD, fdivD, modD, powD, cmpD, eqD, neD, isD, isNotD, negD, absD, lenD, max2D, min2D, DL.intD, strD, tupleD, listD, catD, repD, slD, slDL, ixD, inSD, notInSD, startswithD, endswithD, findD, isdigitD, splitD, partitionD, joinD, lstripD, List.map_cons, List.map_nil, List.length_cons, List.length_nil, List.cons_append, List.nil_append, List.set_cons_zero, List.set_cons_succ, Nat.reduceAdd, Nat.reduceSub, List.replicate_succ, List.replicate_zero, List.tail_cons, Bool.false_eq_true, if_true, if_false, ite_true, ite_false, reduceIte, true_and, and_true, Bool.not_true, Bool.not_false, decide_eq_true_eq, Bool.not_eq_true', decide_eq_false_iff_not, ne_eq, reduceCtorEq, not_false_eq_true, DL.MulOk, at_0, at_1, at_2, Option.some.injEq, exists_eq_left, exists_eq_left', Int.reduceAdd, Int.reduceSub, Int.reduceMul, Int.reduceNeg, Int.reduceToNat, Int.reduceEq, Int.reduceLT, Int.reduceLE, Nat.reduceLeDiff, Nat.reduceLT, Nat.reduceEqDiff, sizeLine_eq, hd2, CPowD, CFdiv]
      rw [List.range_succ, List.foldl_append]
      exact ⟨by decide, by decide, _, rfl⟩
    · rintro ρ ⟨s, rfl⟩
      simp only [dSeq, dNext, dSet, dOwn, dRet, dRetN, dIfS, dDrop, dAsg, dPar, dAug, dSetIx, dApp, dClear, dRaise, dTest, dTru, truD, dAndT, dOrT, dNotT, dIf, dAndV, dOrV, dNotV, dOp, dUn, dCB, dBM, dNilA, dVar, dBor, dGive, dC, dCons, dNil, dTup, dLst, dSl, dPart, dNoPart, dIsi, nth, dstart, istart, dFld, dFldSet, putD, dgName, dgTup, dgCons, dgNil, dItL, dItT, dItS, dItR1, dItR2, dItE, dItZ, dYes, dMeth, dOr, Ends2, addD, iaddD, imulD, subD, mulD, fdivD, modD, powD, cmpD, eqD, neD, isD, isNotD, negD, absD, lenD, max2D, min2D, DL.intD, strD, tupleD, listD, catD, repD, slD, slDL, ixD, inSD, notInSD, startswithD, endswithD, findD, isdigitD, splitD, partitionD, joinD, lstripD, List.map_cons, List.map_nil, List.length_cons, List.length_nil, List.cons_append, List.nil_append, List.set_cons_zero, List.set_cons_succ, Nat.reduceAdd, Nat.reduceSub, List.replicate_succ, List.replicate_zero, List.tail_cons, Bool.false_eq_true, if_true, if_false, ite_true, ite_false, reduceIte, true_and, and_true, Bool.not_true, Bool.not_false, decide_eq_true_eq, Bool.not_eq_true', decide_eq_false_iff_not, ne_eq, reduceCtorEq, not_false_eq_true, DL.MulOk, at_0, at_1, at_2, Option.some.injEq, exists_eq_left, exists_eq_left', Int.reduceAdd, Int.reduceSub, Int.reduceMul, Int.reduceNeg, Int.reduceToNat, Int.reduceEq, Int.reduceLT, Int.reduceLE, Nat.reduceLeDiff, Nat.reduceLT, Nat.reduceEqDiff, sizeLine_eq, rangeD_len]
  · exact ⟨mul_l (by decide), sq_ok (by decide) (by decide), mul_l (by decide), sq_ok (by decide) (by decide), rfl⟩
/-! forms, parts -/
structure Form where
  n : Int
  k : Int
  c : Int
  deriving DecidableEq
def fD (f : Form) : D := .tup [.int f.n, .int f.k, .int f.c]
def rD (r : Int × Int) : D := .tup [.int r.1, .int r.2]
inductive Part where
  | cho (u l : Form) | wei (f : Form) | pow (r : Int × Int) | gro (r : Int × Int)
  deriving DecidableEq
def pD : Part → D
  | .cho u l => .tup [.str "choose", fD u, fD l]
  | .wei f => .tup [.str "weight", fD f]
  | .pow r => .tup [.str "power", rD r]
  | .gro r => .tup [.str "growth", rD r]
def N__law_forms : List Str := ["_law_one", "_law_other", "_law_most", "_law_high", "_law_low"]
def d__law_forms : DTS :=
  (dSeq (dSet 3 (dTup (dCons (dOp modD (dBor 0) (dOp addD (dBor 2) (dC (.int 1)))) (dCons (dOp modD (dOp fdivD (dBor 0) (dC (.int 4))) (dOp addD (dBor 2) (dC (.int 1)))) (dCons (dOp modD (dOp fdivD (dBor 0) (dC (.int 16))) (dC (.int 10))) dNil)))))
  (dSeq (dIfS (dTest (dOp eqD (dOp modD (dOp fdivD (dBor 0) (dC (.int 160))) (dC (.int 2))) (dC (.int 0)))) (dSet 4 (dTup (dCons (dOp modD (dBor 1) (dOp addD (dOp ixD (dBor 3) (dC (.int 0))) (dC (.int 1)))) (dCons (dOp subD (dOp modD (dOp fdivD (dBor 1) (dC (.int 4))) (dC (.int 3))) (dC (.int 1))) (dCons (dOp modD (dOp fdivD (dBor 1) (dC (.int 12))) (dOp addD (dOp ixD (dBor 3) (dC (.int 2))) (dC (.int 1)))) dNil))))) (dSet 4 (dTup (dCons (dOp subD (dOp modD (dBor 1) (dOp addD (dOp mulD (dC (.int 2)) (dBor 2)) (dC (.int 1)))) (dBor 2)) (dCons (dOp subD (dOp modD (dOp fdivD (dBor 1) (dC (.int 7))) (dOp addD (dOp mulD (dC (.int 2)) (dBor 2)) (dC (.int 1)))) (dBor 2)) (dCons (dOp subD (dOp modD (dOp fdivD (dBor 1) (dC (.int 49))) (dC (.int 19))) (dC (.int 9))) dNil))))))
  (dSeq (dIfS (dAndT (dTest (dOp eqD (dOp ixD (dBor 4) (dC (.int 0))) (dC (.int 0)))) (dTest (dOp ltD (dOp ixD (dBor 4) (dC (.int 1))) (dC (.int 0))))) (dSet 4 (dTup (dCons (dC (.int 0)) (dCons (dUn negD (dOp ixD (dBor 4) (dC (.int 1)))) (dCons (dOp ixD (dBor 4) (dC (.int 2))) dNil))))) dNext)
  (dSeq (dIfS (dAndT (dTest (dOp eqD (dOp ixD (dBor 4) (dC (.int 0))) (dOp ixD (dBor 3) (dC (.int 0))))) (dTest (dOp gtD (dOp ixD (dBor 4) (dC (.int 1))) (dOp ixD (dBor 3) (dC (.int 1)))))) (dSet 4 (dTup (dCons (dOp ixD (dBor 4) (dC (.int 0))) (dCons (dOp ixD (dBor 3) (dC (.int 1))) (dCons (dOp ixD (dBor 4) (dC (.int 2))) dNil))))) dNext)
  (dRet (dTup (dCons (dC (.str "choose")) (dCons (dVar 3) (dCons (dVar 4) dNil)))))))))
def mHigh (a : Int) : Form := ⟨a.fmod 4, (a.fdiv 4).fmod 4, (a.fdiv 16).fmod 10⟩
def mLow0 (a b : Int) : Form := if (a.fdiv 160).fmod 2 = 0 then ⟨b.fmod ((mHigh a).n + 1), (b.fdiv 4).fmod 3 - 1, (b.fdiv 12).fmod ((mHigh a).c + 1)⟩ else ⟨b.fmod 7 - 3, (b.fdiv 7).fmod 7 - 3, (b.fdiv 49).fmod 19 - 9⟩
def mLow1 (f : Form) : Form := if f.n = 0 ∧ f.k < 0 then ⟨0, -f.k, f.c⟩ else f
def mLow2 (h f : Form) : Form := if f.n = h.n ∧ h.k < f.k then ⟨f.n, h.k, f.c⟩ else f
def mLow (a b : Int) : Form := mLow2 (mHigh a) (mLow1 (mLow0 a b))
def FS__law_forms : FS := { α := Int × Int, args := fun a => [.int a.1, .int a.2, .int 3], pre := fun _ => True, out := fun a => .ok (pD (.cho (mHigh a.1) (mLow a.1 a.2))) }
theorem hm__law_forms : ∀ a, FS__law_forms.pre a → d__law_forms (DDof false (FS__law_forms.out a)) (dstart N__law_forms (FS__law_forms.args a)) := by
  rintro ⟨a, b⟩ _
  unfold d__law_forms FS__law_forms N__law_forms
  have d4 : ∀ c : Int, Builtin.divisionGoesByPylong c 4 = false := fun c => div_small (by decide)
  have d16 : ∀ c : Int, Builtin.divisionGoesByPylong c 16 = false := fun c => div_small (by decide)
  have d160 : ∀ c : Int, Builtin.divisionGoesByPylong c 160 = false := fun c => div_small (by decide)
  have d12 : ∀ c : Int, Builtin.divisionGoesByPylong c 12 = false := fun c => div_small (by decide)
  have d7 : ∀ c : Int, Builtin.divisionGoesByPylong c 7 = false := fun c => div_small (by decide)
  have d49 : ∀ c : Int, Builtin.divisionGoesByPylong c 49 = false := fun c => div_small (by decide)
  have h1 := fmod_lt (a := a) (b := 4) (by decide)
  have h2 := fmod_lt (a := a.fdiv 16) (b := 10) (by decide)
  simp only [dSeq, dNext, dSet, dOwn, dRet, dRetN, dIfS, dDrop, dAsg, dPar, dAug, dSetIx, dApp, dClear, dRaise, dTest, dTru, truD, dAndT, dOrT, dNotT, dIf, dAndV, dOrV, dNotV, dOp, dUn, dCB, dBM, dNilA, dVar, dBor, dGive, dC, dCons, dNil, dTup, dLst, dSl, dPart, dNoPart, dIsi, nth, dstart, istart, dFld, dFldSet, putD, dgName, dgTup, dgCons, dgNil, dItL, dItT, dItS, dItR1, dItR2, dItE, dItZ, dYes, dMeth, dOr, Ends2, addD, iaddD, imulD, subD, mulD, fdivD, modD, powD, cmpD, eqD, neD, isD, isNotD, negD, absD, lenD, max2D, min2D, DL.intD, strD, tupleD, listD, catD, repD, slD, slDL, ixD, inSD, notInSD, startswithD, endswithD, findD, isdigitD, splitD, partitionD, joinD, lstripD, List.map_cons, List.map_nil, List.length_cons, List.length_nil, List.cons_append, List.nil_append, List.set_cons_zero, List.set_cons_succ, Nat.reduceAdd, Nat.reduceSub, List.replicate_succ, List.replicate_zero, List.tail_cons, Bool.false_eq_true, if_true, if_false, ite_true, ite_false, reduceIte, true_and, and_true, Bool.not_true, Bool.not_false, decide_eq_true_eq, Bool.not_eq_true', decide_eq_false_iff_not, ne_eq, reduceCtorEq, not_false_eq_true, DL.MulOk, at_0, at_1, at_2, Option.some.injEq, exists_eq_left, exists_eq_left', Int.reduceAdd, Int.reduceSub, Int.reduceMul, Int.reduceNeg, Int.reduceToNat, Int.reduceEq, Int.reduceLT, Int.reduceLE, Nat.reduceLeDiff, Nat.reduceLT, Nat.reduceEqDiff, sizeLine_eq, CFdiv, d4, d16, d160, d12, d7, d49]
  have m23 : IntMulOk 2 3 := mul_l (by decide)
  have n1 : ¬ (a.fmod 4 + 1 = 0) := by omega
  have n2 : ¬ ((a.fdiv 16).fmod 10 + 1 = 0) := by omega
  unfold mLow mLow2 mLow1 mLow0 mHigh pD fD
  simp only [m23, n1, n2, not_false_eq_true, true_and]
  by_cases c1 : (a.fdiv 160).fmod 2 = 0
  · simp only [c1, if_true]
    by_cases c2 : b.fmod (a.fmod 4 + 1) = 0
    · by_cases c3 : (b.fdiv 4).fmod 3 - 1 < 0 <;> simp only [c2, c3, if_true, if_false, true_and, and_true, and_false, false_and] <;> repeat' split <;> simp_all
    · simp only [c2, if_false, false_and] ; repeat' split <;> simp_all
  · simp only [c1, if_false]
    by_cases c2 : b.fmod 7 - 3 = 0
    · by_cases c3 : (b.fdiv 7).fmod 7 - 3 < 0 <;> simp only [c2, c3, if_true, if_false, true_and, and_true, and_false, false_and] <;> repeat' split <;> simp_all
    · simp only [c2, if_false, false_and] ; repeat' split <;> simp_all
def N__law_divisor : List Str := ["_law_one", "_law_other", "_law_rest"]
def d__law_divisor : DTS :=
  (dSeq (dSet 0 (dCB absD (dCons (dBor 0) dNil)))
  (dSeq (dSet 1 (dCB absD (dCons (dBor 1) dNil)))
  (dSeq (dWhile (dTest (dOp neD (dBor 0) (dC (.int 0)))) (dSeq (dSet 2 (dOp modD (dBor 1) (dBor 0)))
  (dSeq (dSet 1 (dVar 0))
  (dSet 0 (dVar 2)))))
  (dRet (dVar 1)))))
/-- the greatest divisor -/
def gcdI (a b : Int) : Int := (Nat.gcd a.natAbs b.natAbs : Nat)
theorem abs_nat (a : Int) : (if a < 0 then -a else a) = (a.natAbs : Int) := by split <;> omega
def FS__law_divisor : FS := { α := Int × Int, args := fun a => [.int a.1, .int a.2], pre := fun _ => True, out := fun a => .ok (.int (gcdI a.1 a.2)) }
theorem hm__law_divisor : ∀ a, FS__law_divisor.pre a → d__law_divisor (DDof false (FS__law_divisor.out a)) (dstart N__law_divisor (FS__law_divisor.args a)) := by
  rintro ⟨a, b⟩ _
  unfold d__law_divisor FS__law_divisor N__law_divisor gcdI
  simp only [dSeq, dNext, dSet, dOwn, dRet, dRetN, dIfS, dDrop, dAsg, dPar, dAug, dSetIx, dApp, dClear, dRaise, dTest, dTru, truD, dAndT, dOrT, dNotT, dIf, dAndV, dOrV, dNotV, dOp, dUn, dCB, dBM, dNilA, dVar, dBor, dGive, dC, dCons, dNil, dTup, dLst, dSl, dPart, dNoPart, dIsi, nth, dstart, istart, dFld, dFldSet, putD, dgName, dgTup, dgCons, dgNil, dItL, dItT, dItS, dItR1, dItR2, dItE, dItZ, dYes, dMeth, dOr, Ends2, addD, iaddD, imulD, subD, mulD, fdivD, modD, powD, cmpD, eqD, neD, isD, isNotD, negD, absD, lenD, max2D, min2D, DL.intD, strD, tupleD, listD, catD, repD, slD, slDL, ixD, inSD, notInSD, startswithD, endswithD, findD, isdigitD, splitD, partitionD, joinD, lstripD, List.map_cons, List.map_nil, List.length_cons, List.length_nil, List.cons_append, List.nil_append, List.set_cons_zero, List.set_cons_succ, Nat.reduceAdd, Nat.reduceSub, List.replicate_succ, List.replicate_zero, List.tail_cons, Bool.false_eq_true, if_true, if_false, ite_true, ite_false, reduceIte, true_and, and_true, Bool.not_true, Bool.not_false, decide_eq_true_eq, Bool.not_eq_true', decide_eq_false_iff_not, ne_eq, reduceCtorEq, not_false_eq_true, DL.MulOk, at_0, at_1, at_2, Option.some.injEq, exists_eq_left, exists_eq_left', Int.reduceAdd, Int.reduceSub, Int.reduceMul, Int.reduceNeg, Int.reduceToNat, Int.reduceEq, Int.reduceLT, Int.reduceLE, Nat.reduceLeDiff, Nat.reduceLT, Nat.reduceEqDiff, sizeLine_eq, abs_nat]
  refine while_intro (fun ρ => ∃ (x y : Nat) (s : Sl), ρ = [.sh (.int x), .sh (.int y), s] ∧ Nat.gcd x y = Nat.gcd a.natAbs b.natAbs) (fun ρ => match nth ρ 0 with | .sh (.int x) => x.toNat | _ => 0) ⟨_, _, _, rfl, rfl⟩ ?_
  · rintro ρ ⟨x, y, s, rfl, h⟩
    have key : ((y : Int).fmod x) = ((y % x : Nat) : Int) := by rw [Int.fmod_eq_emod_of_nonneg _ (by omega)]; omega
    simp only [dSeq, dNext, dSet, dOwn, dRet, dRetN, dIfS, dDrop, dAsg, dPar, dAug, dSetIx, dApp, dClear, dRaise, dTest, dTru, truD, dAndT, dOrT, dNotT, dIf, dAndV, dOrV, dNotV, dOp, dUn, dCB, dBM, dNilA, dVar, dBor, dGive, dC, dCons, dNil, dTup, dLst, dSl, dPart, dNoPart, dIsi, nth, dstart, istart, dFld, dFldSet, putD, dgName, dgTup, dgCons, dgNil, dItL, dItT, dItS, dItR1, dItR2, dItE, dItZ, dYes, dMeth, dOr, Ends2, addD, iaddD, imulD, subD, mulD, fdivD, modD, powD, cmpD, eqD, neD, isD, isNotD, negD, absD, lenD, max2D, min2D, DL.intD, strD, tupleD, listD, catD, repD, slD, slDL, ixD, inSD, notInSD, startswithD, endswithD, findD, isdigitD, splitD, partitionD, joinD, lstripD, List.map_cons, List.map_nil, List.length_cons, List.length_nil, List.cons_append, List.nil_append, List.set_cons_zero, List.set_cons_succ, Nat.reduceAdd, Nat.reduceSub, List.replicate_succ, List.replicate_zero, List.tail_cons, Bool.false_eq_true, if_true, if_false, ite_true, ite_false, reduceIte, true_and, and_true, Bool.not_true, Bool.not_false, decide_eq_true_eq, Bool.not_eq_true', decide_eq_false_iff_not, ne_eq, reduceCtorEq, not_false_eq_true, DL.MulOk, at_0, at_1, at_2, Option.some.injEq, exists_eq_left, exists_eq_left', Int.reduceAdd, Int.reduceSub, Int.reduceMul, Int.reduceNeg, Int.reduceToNat, Int.reduceEq, Int.reduceLT, Int.reduceLE, Nat.reduceLeDiff, Nat.reduceLT, Nat.reduceEqDiff, sizeLine_eq, key]
    split
    · rename_i hx
      have hx : x ≠ 0 := fun e => hx (by simp [e])
      refine w_step ?_
      simp only [dSeq, dNext, dSet, dOwn, dRet, dRetN, dIfS, dDrop, dAsg, dPar, dAug, dSetIx, dApp, dClear, dRaise, dTest, dTru, truD, dAndT, dOrT, dNotT, dIf, dAndV, dOrV, dNotV, dOp, dUn, dCB, dBM, dNilA, dVar, dBor, dGive, dC, dCons, dNil, dTup, dLst, dSl, dPart, dNoPart, dIsi, nth, dstart, istart, dFld, dFldSet, putD, dgName, dgTup, dgCons, dgNil, dItL, dItT, dItS, dItR1, dItR2, dItE, dItZ, dYes, dMeth, dOr, Ends2, addD, iaddD, imulD, subD, mulD, fdivD, modD, powD, cmpD, eqD, neD, isD, isNotD, negD, absD, lenD, max2D, min2D, DL.intD, strD, tupleD, listD, catD, repD, slD, slDL, ixD, inSD, notInSD, startswithD, endswithD, findD, isdigitD, splitD, partitionD, joinD, lstripD, List.map_cons, List.map_nil, List.length_cons, List.length_nil, List.cons_append, List.nil_append, List.set_cons_zero, List.set_cons_succ, Nat.reduceAdd, Nat.reduceSub, List.replicate_succ, List.replicate_zero, List.tail_cons, Bool.false_eq_true, if_true, if_false, ite_true, ite_false, reduceIte, true_and, and_true, Bool.not_true, Bool.not_false, decide_eq_true_eq, Bool.not_eq_true', decide_eq_false_iff_not, ne_eq, reduceCtorEq, not_false_eq_true, DL.MulOk, at_0, at_1, at_2, Option.some.injEq, exists_eq_left, exists_eq_left', Int.reduceAdd, Int.reduceSub, Int.reduceMul, Int.reduceNeg, Int.reduceToNat, Int.reduceEq, Int.reduceLT, Int.reduceLE, Nat.reduceLeDiff, Nat.reduceLT, Nat.reduceEqDiff, sizeLine_eq, key]
      refine ⟨by omega, ⟨y % x, x, _, rfl, ?_⟩, ?_⟩
      · rw [← h]
        exact (Nat.gcd_rec x y).symm
      · exact Nat.mod_lt _ (Nat.pos_of_ne_zero hx)
    · rename_i hx
      have hx : x = 0 := by omega
      subst hx
      rw [← h, Nat.gcd_zero_left]
end T57

end

section
namespace T57
open PySem PySem.Spec PyProof.Rows L2 DL
theorem gcdI_pos {a b : Int} (h : a ≠ 0) : 0 < gcdI a b := by
  unfold gcdI
  have := Nat.gcd_pos_of_pos_left b.natAbs (show 0 < a.natAbs by omega)
  omega
theorem gcdI_le {a b : Int} (h : a ≠ 0) : (gcdI a b).natAbs ≤ a.natAbs := by
  unfold gcdI
  have := Nat.gcd_le_left b.natAbs (show 0 < a.natAbs by omega)
  omega
theorem mNum_abs {c m : Int} (h : 1001 ≤ m) : (mNum c m).natAbs < m.natAbs := by
  unfold mNum
  have h1 := fmod_lt (a := c.fdiv 3) (b := 2 * m - 1) (by omega)
  have h2 := fmod_lt (a := c.fdiv 3) (b := 2001) (by decide)
  have h3 := fmod_lt (a := c.fdiv 3) (b := 5) (by decide)
  split
  · omega
  · split <;> omega
def N__law_ratio : List Str := ["_law_one", "_law_other", "_law_top", "_law_number_here", "_law_bottom", "_law_by"]
def d__law_ratio : DTS :=
  (dSeq (dSet 2 (dCall FS__law_number (dCons (dVar 0) (dCons (dOp powD (dC (.int 10)) (dC (.int 20))) dNil))))
  (dSeq (dIfS (dTest (dOp eqD (dBor 2) (dC (.int 0)))) (dSet 2 (dC (.int 1))) dNext)
  (dSeq (dSet 3 (dCall FS__law_mixed (dCons (dVar 1) (dCons (dC (.int 3)) dNil))))
  (dSeq (dSet 4 (dOp ixD (dLst (dCons (dC (.int 1)) (dCons (dOp addD (dC (.int 1)) (dOp modD (dOp fdivD (dBor 3) (dC (.int 3))) (dC (.int 9)))) (dCons (dOp addD (dC (.int 1)) (dOp modD (dOp fdivD (dBor 3) (dC (.int 3))) (dOp powD (dC (.int 10)) (dC (.int 6))))) dNil)))) (dOp modD (dBor 3) (dC (.int 3)))))
  (dSeq (dSet 5 (dCall FS__law_divisor (dCons (dVar 2) (dCons (dVar 4) dNil))))
  (dRet (dTup (dCons (dOp fdivD (dBor 2) (dBor 5)) (dCons (dOp fdivD (dBor 4) (dBor 5)) dNil)))))))))
def mTop (a : Int) : Int := if mNum a (10 ^ 20) = 0 then 1 else mNum a (10 ^ 20)
def mBot (b : Int) : Int := if (mMix b 3).fmod 3 = 0 then 1 else if (mMix b 3).fmod 3 = 1 then 1 + ((mMix b 3).fdiv 3).fmod 9 else 1 + ((mMix b 3).fdiv 3).fmod (10 ^ 6)
def mRatio (a b : Int) : Int × Int := ((mTop a).fdiv (gcdI (mTop a) (mBot b)), (mBot b).fdiv (gcdI (mTop a) (mBot b)))
theorem mTop_ne (a : Int) : mTop a ≠ 0 := by unfold mTop; split <;> first | decide | assumption
theorem mTop_lt (a : Int) : (mTop a).natAbs < 10 ^ 20 := by
  unfold mTop
  split
  · decide
  · exact mNum_abs (by decide)
theorem mBot_b (b : Int) : 1 ≤ mBot b ∧ mBot b ≤ 10 ^ 6 := by
  unfold mBot
  have h1 := fmod_lt (a := (mMix b 3).fdiv 3) (b := 9) (by decide)
  have h2 := fmod_lt (a := (mMix b 3).fdiv 3) (b := 10 ^ 6) (by decide)
  split
  · omega
  · split <;> omega
def FS__law_ratio : FS := { α := Int × Int, args := fun a => [.int a.1, .int a.2], pre := fun _ => True, out := fun a => .ok (rD (mRatio a.1 a.2)) }
theorem hm__law_ratio : ∀ a, FS__law_ratio.pre a → d__law_ratio (DDof false (FS__law_ratio.out a)) (dstart N__law_ratio (FS__law_ratio.args a)) := by
  rintro ⟨a, b⟩ _
  unfold d__law_ratio FS__law_ratio N__law_ratio
  have d3 : ∀ c : Int, Builtin.divisionGoesByPylong c 3 = false := fun c => div_small (by decide)
  have h1 := gcdI_pos (b := mBot b) (mTop_ne a)
  have h2 := gcdI_le (b := mBot b) (mTop_ne a)
  have h3 := mTop_lt a
  have dg : ∀ c : Int, Builtin.divisionGoesByPylong c (gcdI (mTop a) (mBot b)) = false := fun c => div_small (by
    have : (10 ^ 20 : Nat) < 2 ^ 250 := by decide
    omega)
  have p20 : CPowD 10 20 := ⟨by decide, by decide, by decide⟩
  have p6 : CPowD 10 6 := ⟨by decide, by decide, by decide⟩
  apply s_set
  · refine ev_call (a, 10 ^ 20) (fun Q E h => ?_) ⟨(by decide : (1 : Int) ≤ 10 ^ 20), (by decide : (10 : Int) ^ 20 < 2 ^ 250)⟩ rfl
    simp only [dSeq, dNext, dSet, dOwn, dRet, dRetN, dIfS, dDrop, dAsg, dPar, dAug, dSetIx, dApp, dClear, dRaise, dTest, dTru, truD, dAndT, dOrT, dNotT, dIf, dAndV, dOrV, dNotV, dOp, dUn, dCB, dBM, dNilA, dVar, dBor, dGive, dC, dCons, dNil, dTup, dLst, dSl, dPart, dNoPart, dIsi, nth, dstart, istart, dFld, dFldSet, putD, dgName, dgTup, dgCons, dgNil, dItL, dItT, dItS, dItR1, dItR2, dItE, dItZ, dYes, dMeth, dOr, Ends2, addD, iaddD, imulD, subD, mulD, fdivD, modD, powD, cmpD, eqD, neD, isD, isNotD, negD, absD, lenD, max2D, min2D, DL.intD, strD, tupleD, listD, catD, repD, slD, slDL, ixD, inSD, notInSD, startswithD, endswithD, findD, isdigitD, splitD, partitionD, joinD, lstripD, List.map_cons, List.map_nil, List.length_cons, List.length_nil, List.cons_append, List.nil_append, List.set_cons_zero, List.set_cons_succ, Nat.reduceAdd, Nat.reduceSub, List.replicate_succ, List.replicate_zero, List.tail_cons, Bool.false_eq_true, if_true, if_false, ite_true, ite_false, reduceIte, true_and, and_true, Bool.not_true, Bool.not_false, decide_eq_true_eq, Bool.not_eq_true', decide_eq_false_iff_not, ne_eq, reduceCtorEq, not_false_eq_true, DL.MulOk, at_0, at_1, at_2, Option.some.injEq, exists_eq_left, exists_eq_left', Int.reduceAdd, Int.reduceSub, Int.reduceMul, Int.reduceNeg, Int.reduceToNat, Int.reduceEq, Int.reduceLT, Int.reduceLE, Nat.reduceLeDiff, Nat.reduceLT, Nat.reduceEqDiff, sizeLine_eq, p20]
    exact h
  refine s_if (b := decide (mNum a (10 ^ 20) = 0)) (fun Q E h => by simp only [dSeq, dNext, dSet, dOwn, dRet, dRetN, dIfS, dDrop, dAsg, dPar, dAug, dSetIx, dApp, dClear, dRaise, dTest, dTru, truD, dAndT, dOrT, dNotT, dIf, dAndV, dOrV, dNotV, dOp, dUn, dCB, dBM, dNilA, dVar, dBor, dGive, dC, dCons, dNil, dTup, dLst, dSl, dPart, dNoPart, dIsi, nth, dstart, istart, dFld, dFldSet, putD, dgName, dgTup, dgCons, dgNil, dItL, dItT, dItS, dItR1, dItR2, dItE, dItZ, dYes, dMeth, dOr, Ends2, addD, iaddD, imulD, subD, mulD, fdivD, modD, powD, cmpD, eqD, neD, isD, isNotD, negD, absD, lenD, max2D, min2D, DL.intD, strD, tupleD, listD, catD, repD, slD, slDL, ixD, inSD, notInSD, startswithD, endswithD, findD, isdigitD, splitD, partitionD, joinD, lstripD, List.map_cons, List.map_nil, List.length_cons, List.length_nil, List.cons_append, List.nil_append, List.set_cons_zero, List.set_cons_succ, Nat.reduceAdd, Nat.reduceSub, List.replicate_succ, List.replicate_zero, List.tail_cons, Bool.false_eq_true, if_true, if_false, ite_true, ite_false, reduceIte, true_and, and_true, Bool.not_true, Bool.not_false, decide_eq_true_eq, Bool.not_eq_true', decide_eq_false_iff_not, ne_eq, reduceCtorEq, not_false_eq_true, DL.MulOk, at_0, at_1, at_2, Option.some.injEq, exists_eq_left, exists_eq_left', Int.reduceAdd, Int.reduceSub, Int.reduceMul, Int.reduceNeg, Int.reduceToNat, Int.reduceEq, Int.reduceLT, Int.reduceLE, Nat.reduceLeDiff, Nat.reduceLT, Nat.reduceEqDiff, sizeLine_eq]; exact h) ?_
  have step : (dSeq (dSet 3 (dCall FS__law_mixed (dCons (dVar 1) (dCons (dC (.int 3)) dNil))))
  (dSeq (dSet 4 (dOp ixD (dLst (dCons (dC (.int 1)) (dCons (dOp addD (dC (.int 1)) (dOp modD (dOp fdivD (dBor 3) (dC (.int 3))) (dC (.int 9)))) (dCons (dOp addD (dC (.int 1)) (dOp modD (dOp fdivD (dBor 3) (dC (.int 3))) (dOp powD (dC (.int 10)) (dC (.int 6))))) dNil)))) (dOp modD (dBor 3) (dC (.int 3)))))
  (dSeq (dSet 5 (dCall FS__law_divisor (dCons (dVar 2) (dCons (dVar 4) dNil))))
  (dRet (dTup (dCons (dOp fdivD (dBor 2) (dBor 5)) (dCons (dOp fdivD (dBor 4) (dBor 5)) dNil))))))) (DDof false (.ok (rD (mRatio a b)))) [.sh (.int a), .sh (.int b), .sh (.int (mTop a)), .em, .em, .em] := by
    apply s_set
    · refine ev_call (b, 3) (fun Q E h => ?_) (show (3 : Nat) ≤ 63 by decide) rfl
      simp only [dSeq, dNext, dSet, dOwn, dRet, dRetN, dIfS, dDrop, dAsg, dPar, dAug, dSetIx, dApp, dClear, dRaise, dTest, dTru, truD, dAndT, dOrT, dNotT, dIf, dAndV, dOrV, dNotV, dOp, dUn, dCB, dBM, dNilA, dVar, dBor, dGive, dC, dCons, dNil, dTup, dLst, dSl, dPart, dNoPart, dIsi, nth, dstart, istart, dFld, dFldSet, putD, dgName, dgTup, dgCons, dgNil, dItL, dItT, dItS, dItR1, dItR2, dItE, dItZ, dYes, dMeth, dOr, Ends2, addD, iaddD, imulD, subD, mulD, fdivD, modD, powD, cmpD, eqD, neD, isD, isNotD, negD, absD, lenD, max2D, min2D, DL.intD, strD, tupleD, listD, catD, repD, slD, slDL, ixD, inSD, notInSD, startswithD, endswithD, findD, isdigitD, splitD, partitionD, joinD, lstripD, List.map_cons, List.map_nil, List.length_cons, List.length_nil, List.cons_append, List.nil_append, List.set_cons_zero, List.set_cons_succ, Nat.reduceAdd, Nat.reduceSub, List.replicate_succ, List.replicate_zero, List.tail_cons, Bool.false_eq_true, if_true, if_false, ite_true, ite_false, reduceIte, true_and, and_true, Bool.not_true, Bool.not_false, decide_eq_true_eq, Bool.not_eq_true', decide_eq_false_iff_not, ne_eq, reduceCtorEq, not_false_eq_true, DL.MulOk, at_0, at_1, at_2, Option.some.injEq, exists_eq_left, exists_eq_left', Int.reduceAdd, Int.reduceSub, Int.reduceMul, Int.reduceNeg, Int.reduceToNat, Int.reduceEq, Int.reduceLT, Int.reduceLE, Nat.reduceLeDiff, Nat.reduceLT, Nat.reduceEqDiff, sizeLine_eq]
      exact h
    apply s_set
    · intro Q E h
      simp only [dSeq, dNext, dSet, dOwn, dRet, dRetN, dIfS, dDrop, dAsg, dPar, dAug, dSetIx, dApp, dClear, dRaise, dTest, dTru, truD, dAndT, dOrT, dNotT, dIf, dAndV, dOrV, dNotV, dOp, dUn, dCB, dBM, dNilA, dVar, dBor, dGive, dC, dCons, dNil, dTup, dLst, dSl, dPart, dNoPart, dIsi, nth, dstart, istart, dFld, dFldSet, putD, dgName, dgTup, dgCons, dgNil, dItL, dItT, dItS, dItR1, dItR2, dItE, dItZ, dYes, dMeth, dOr, Ends2, addD, iaddD, imulD, subD, mulD, fdivD, modD, powD, cmpD, eqD, neD, isD, isNotD, negD, absD, lenD, max2D, min2D, DL.intD, strD, tupleD, listD, catD, repD, slD, slDL, ixD, inSD, notInSD, startswithD, endswithD, findD, isdigitD, splitD, partitionD, joinD, lstripD, List.map_cons, List.map_nil, List.length_cons, List.length_nil, List.cons_append, List.nil_append, List.set_cons_zero, List.set_cons_succ, Nat.reduceAdd, Nat.reduceSub, List.replicate_succ, List.replicate_zero, List.tail_cons, Bool.false_eq_true, if_true, if_false, ite_true, ite_false, reduceIte, true_and, and_true, Bool.not_true, Bool.not_false, decide_eq_true_eq, Bool.not_eq_true', decide_eq_false_iff_not, ne_eq, reduceCtorEq, not_false_eq_true, DL.MulOk, at_0, at_1, at_2, Option.some.injEq, exists_eq_left, exists_eq_left', Int.reduceAdd, Int.reduceSub, Int.reduceMul, Int.reduceNeg, Int.reduceToNat, Int.reduceEq, Int.reduceLT, Int.reduceLE, Nat.reduceLeDiff, Nat.reduceLT, Nat.reduceEqDiff, sizeLine_eq, CFdiv, d3, p6]
      have h4 := fmod_lt (a := mMix b 3) (b := 3) (by decide)
      have hb : ∃ d, L2.atI [D.int 1, .int (1 + ((mMix b 3).fdiv 3).fmod 9), .int (1 + ((mMix b 3).fdiv 3).fmod (10 ^ 6))] ((mMix b 3).fmod 3) = some d ∧ d = .int (mBot b) := by
        unfold mBot
        obtain e | e | e : (mMix b 3).fmod 3 = 0 ∨ (mMix b 3).fmod 3 = 1 ∨ (mMix b 3).fmod 3 = 2 := by omega
        all_goals rw [e]; simp [at_0, at_1, at_2]
      obtain ⟨d, e1, rfl⟩ := hb
      exact ⟨by decide, _, e1, h⟩
    apply s_set
    · refine ev_call (mTop a, mBot b) (fun Q E h => ?_) trivial rfl
      simp only [dSeq, dNext, dSet, dOwn, dRet, dRetN, dIfS, dDrop, dAsg, dPar, dAug, dSetIx, dApp, dClear, dRaise, dTest, dTru, truD, dAndT, dOrT, dNotT, dIf, dAndV, dOrV, dNotV, dOp, dUn, dCB, dBM, dNilA, dVar, dBor, dGive, dC, dCons, dNil, dTup, dLst, dSl, dPart, dNoPart, dIsi, nth, dstart, istart, dFld, dFldSet, putD, dgName, dgTup, dgCons, dgNil, dItL, dItT, dItS, dItR1, dItR2, dItE, dItZ, dYes, dMeth, dOr, Ends2, addD, iaddD, imulD, subD, mulD, fdivD, modD, powD, cmpD, eqD, neD, isD, isNotD, negD, absD, lenD, max2D, min2D, DL.intD, strD, tupleD, listD, catD, repD, slD, slDL, ixD, inSD, notInSD, startswithD, endswithD, findD, isdigitD, splitD, partitionD, joinD, lstripD, List.map_cons, List.map_nil, List.length_cons, List.length_nil, List.cons_append, List.nil_append, List.set_cons_zero, List.set_cons_succ, Nat.reduceAdd, Nat.reduceSub, List.replicate_succ, List.replicate_zero, List.tail_cons, Bool.false_eq_true, if_true, if_false, ite_true, ite_false, reduceIte, true_and, and_true, Bool.not_true, Bool.not_false, decide_eq_true_eq, Bool.not_eq_true', decide_eq_false_iff_not, ne_eq, reduceCtorEq, not_false_eq_true, DL.MulOk, at_0, at_1, at_2, Option.some.injEq, exists_eq_left, exists_eq_left', Int.reduceAdd, Int.reduceSub, Int.reduceMul, Int.reduceNeg, Int.reduceToNat, Int.reduceEq, Int.reduceLT, Int.reduceLE, Nat.reduceLeDiff, Nat.reduceLT, Nat.reduceEqDiff, sizeLine_eq]
      exact h
    apply e_ret
    · intro Q E h
      simp only [dSeq, dNext, dSet, dOwn, dRet, dRetN, dIfS, dDrop, dAsg, dPar, dAug, dSetIx, dApp, dClear, dRaise, dTest, dTru, truD, dAndT, dOrT, dNotT, dIf, dAndV, dOrV, dNotV, dOp, dUn, dCB, dBM, dNilA, dVar, dBor, dGive, dC, dCons, dNil, dTup, dLst, dSl, dPart, dNoPart, dIsi, nth, dstart, istart, dFld, dFldSet, putD, dgName, dgTup, dgCons, dgNil, dItL, dItT, dItS, dItR1, dItR2, dItE, dItZ, dYes, dMeth, dOr, Ends2, addD, iaddD, imulD, subD, mulD, fdivD, modD, powD, cmpD, eqD, neD, isD, isNotD, negD, absD, lenD, max2D, min2D, DL.intD, strD, tupleD, listD, catD, repD, slD, slDL, ixD, inSD, notInSD, startswithD, endswithD, findD, isdigitD, splitD, partitionD, joinD, lstripD, List.map_cons, List.map_nil, List.length_cons, List.length_nil, List.cons_append, List.nil_append, List.set_cons_zero, List.set_cons_succ, Nat.reduceAdd, Nat.reduceSub, List.replicate_succ, List.replicate_zero, List.tail_cons, Bool.false_eq_true, if_true, if_false, ite_true, ite_false, reduceIte, true_and, and_true, Bool.not_true, Bool.not_false, decide_eq_true_eq, Bool.not_eq_true', decide_eq_false_iff_not, ne_eq, reduceCtorEq, not_false_eq_true, DL.MulOk, at_0, at_1, at_2, Option.some.injEq, exists_eq_left, exists_eq_left', Int.reduceAdd, Int.reduceSub, Int.reduceMul, Int.reduceNeg, Int.reduceToNat, Int.reduceEq, Int.reduceLT, Int.reduceLE, Nat.reduceLeDiff, Nat.reduceLT, Nat.reduceEqDiff, sizeLine_eq, CFdiv, dg]
      have n0 : ¬ gcdI (mTop a) (mBot b) = 0 := by omega
      exact ⟨n0, n0, h⟩
    rfl
  by_cases hz : mNum a (10 ^ 20) = 0
  · simp only [hz, decide_true, if_true]
    apply s_set
    · intro Q E h
      simp only [dSeq, dNext, dSet, dOwn, dRet, dRetN, dIfS, dDrop, dAsg, dPar, dAug, dSetIx, dApp, dClear, dRaise, dTest, dTru, truD, dAndT, dOrT, dNotT, dIf, dAndV, dOrV, dNotV, dOp, dUn, dCB, dBM, dNilA, dVar, dBor, dGive, dC, dCons, dNil, dTup, dLst, dSl, dPart, dNoPart, dIsi, nth, dstart, istart, dFld, dFldSet, putD, dgName, dgTup, dgCons, dgNil, dItL, dItT, dItS, dItR1, dItR2, dItE, dItZ, dYes, dMeth, dOr, Ends2, addD, iaddD, imulD, subD, mulD, fdivD, modD, powD, cmpD, eqD, neD, isD, isNotD, negD, absD, lenD, max2D, min2D, DL.intD, strD, tupleD, listD, catD, repD, slD, slDL, ixD, inSD, notInSD, startswithD, endswithD, findD, isdigitD, splitD, partitionD, joinD, lstripD, List.map_cons, List.map_nil, List.length_cons, List.length_nil, List.cons_append, List.nil_append, List.set_cons_zero, List.set_cons_succ, Nat.reduceAdd, Nat.reduceSub, List.replicate_succ, List.replicate_zero, List.tail_cons, Bool.false_eq_true, if_true, if_false, ite_true, ite_false, reduceIte, true_and, and_true, Bool.not_true, Bool.not_false, decide_eq_true_eq, Bool.not_eq_true', decide_eq_false_iff_not, ne_eq, reduceCtorEq, not_false_eq_true, DL.MulOk, at_0, at_1, at_2, Option.some.injEq, exists_eq_left, exists_eq_left', Int.reduceAdd, Int.reduceSub, Int.reduceMul, Int.reduceNeg, Int.reduceToNat, Int.reduceEq, Int.reduceLT, Int.reduceLE, Nat.reduceLeDiff, Nat.reduceLT, Nat.reduceEqDiff, sizeLine_eq]
      exact h
    have e : mTop a = 1 := by unfold mTop; rw [if_pos hz]
    rw [e] at step
    exact step
  · simp only [hz, decide_false]
    have e : mTop a = mNum a (10 ^ 20) := by unfold mTop; rw [if_neg hz]
    rw [e] at step
    exact step
end T57

end

section
namespace T57
open PySem PySem.Spec PyProof.Rows L2 DL
def N_within : List Str := ["form", "least", "greatest", "last"]
def d_within : DTS :=
  (dSeq (dIfS (dOrT (dTest (dOp ltD (dCB minSD (dCons (dSl slD (dBor 0) dNoPart (dPart (dC (.int 2)))) dNil)) (dBor 1))) (dTest (dOp gtD (dCB maxSD (dCons (dSl slD (dBor 0) dNoPart (dPart (dC (.int 2)))) dNil)) (dBor 2)))) (dRet (dC (.bl false))) dNext)
  (dRet (dAndV (dOp leD (dCB absD (dCons (dOp ixD (dBor 0) (dC (.int 2))) dNil)) (dBor 3)) (dOrV (dOp ltD (dBor 1) (dC (.int 0))) (dOp geD (dOp ixD (dBor 0) (dC (.int 2))) (dC (.int 0)))))))
def mWithin (f : Form) (lo hi last : Int) : Bool := !(decide (min f.n f.k < lo) || decide (max f.n f.k > hi)) && (decide ((f.c.natAbs : Int) ≤ last) && (decide (lo < 0) || decide (0 ≤ f.c)))
def FS_within : FS := { α := Form × Int × Int × Int, args := fun a => [fD a.1, .int a.2.1, .int a.2.2.1, .int a.2.2.2], pre := fun _ => True, out := fun a => .ok (.bl (mWithin a.1 a.2.1 a.2.2.1 a.2.2.2)) }
theorem cut2 {a b c : D} : cutD [a, b, c] none (some 2) = [a, b] := by rfl
theorem cut2n : ¬ (HT.sIx 3 0 none = 0 ∧ HT.sIx 3 3 (some 2) = 3) := by decide
theorem min2_ev {a b : Int} {P : D → Prop} (h : P (.int (min a b))) : minSD [.tup [.int a, .int b]] P := ⟨[a, b], .inr (.inr rfl), by simp, h⟩
theorem max2_ev {a b : Int} {P : D → Prop} (h : P (.int (max a b))) : maxSD [.tup [.int a, .int b]] P := ⟨[a, b], .inr (.inr rfl), by simp, h⟩
theorem hm_within : ∀ a, FS_within.pre a → d_within (DDof false (FS_within.out a)) (dstart N_within (FS_within.args a)) := by
  rintro ⟨⟨a, b, c⟩, lo, hi, last⟩ _
  unfold d_within FS_within N_within mWithin fD
  dsimp only [dstart, istart, List.map_cons, List.map_nil, List.length_cons, List.length_nil, Nat.reduceAdd, Nat.reduceSub, List.replicate_succ, List.replicate_zero, List.cons_append, List.nil_append, List.tail_cons]
  refine s_if (b := (decide (min a b < lo) || decide (max a b > hi))) (fun Q E h => ?_) ?_
  · simp only [dSeq, dNext, dSet, dOwn, dRet, dRetN, dIfS, dDrop, dAsg, dPar, dAug, dSetIx, dApp, dClear, dRaise, dTest, dTru, truD, dAndT, dOrT, dNotT, dIf, dAndV, dOrV, dNotV, dOp, dUn, dCB, dBM, dNilA, dVar, dBor, dGive, dC, dCons, dNil, dTup, dLst, dSl, dPart, dNoPart, dIsi, nth, dstart, istart, dFld, dFldSet, putD, dgName, dgTup, dgCons, dgNil, dItL, dItT, dItS, dItR1, dItR2, dItE, dItZ, dYes, dMeth, dOr, Ends2, addD, iaddD, imulD, subD, mulD, fdivD, modD, powD, cmpD, eqD, neD, isD, isNotD, negD, absD, lenD, max2D, min2D, DL.intD, strD, tupleD, listD, catD, repD, slD, slDL, ixD, inSD, notInSD, startswithD, endswithD, findD, isdigitD, splitD, partitionD, joinD, lstripD, List.map_cons, List.map_nil, List.length_cons, List.length_nil, List.cons_append, List.nil_append, List.set_cons_zero, List.set_cons_succ, Nat.reduceAdd, Nat.reduceSub, List.replicate_succ, List.replicate_zero, List.tail_cons, Bool.false_eq_true, if_true, if_false, ite_true, ite_false, reduceIte, true_and, and_true, Bool.not_true, Bool.not_false, decide_eq_true_eq, Bool.not_eq_true', decide_eq_false_iff_not, ne_eq, reduceCtorEq, not_false_eq_true, DL.MulOk, at_0, at_1, at_2, Option.some.injEq, exists_eq_left, exists_eq_left', Int.reduceAdd, Int.reduceSub, Int.reduceMul, Int.reduceNeg, Int.reduceToNat, Int.reduceEq, Int.reduceLT, Int.reduceLE, Nat.reduceLeDiff, Nat.reduceLT, Nat.reduceEqDiff, sizeLine_eq, cut2]
    refine ⟨cut2n, min2_ev ?_⟩
    simp only [dSeq, dNext, dSet, dOwn, dRet, dRetN, dIfS, dDrop, dAsg, dPar, dAug, dSetIx, dApp, dClear, dRaise, dTest, dTru, truD, dAndT, dOrT, dNotT, dIf, dAndV, dOrV, dNotV, dOp, dUn, dCB, dBM, dNilA, dVar, dBor, dGive, dC, dCons, dNil, dTup, dLst, dSl, dPart, dNoPart, dIsi, nth, dstart, istart, dFld, dFldSet, putD, dgName, dgTup, dgCons, dgNil, dItL, dItT, dItS, dItR1, dItR2, dItE, dItZ, dYes, dMeth, dOr, Ends2, addD, iaddD, imulD, subD, mulD, fdivD, modD, powD, cmpD, eqD, neD, isD, isNotD, negD, absD, lenD, max2D, min2D, DL.intD, strD, tupleD, listD, catD, repD, slD, slDL, ixD, inSD, notInSD, startswithD, endswithD, findD, isdigitD, splitD, partitionD, joinD, lstripD, List.map_cons, List.map_nil, List.length_cons, List.length_nil, List.cons_append, List.nil_append, List.set_cons_zero, List.set_cons_succ, Nat.reduceAdd, Nat.reduceSub, List.replicate_succ, List.replicate_zero, List.tail_cons, Bool.false_eq_true, if_true, if_false, ite_true, ite_false, reduceIte, true_and, and_true, Bool.not_true, Bool.not_false, decide_eq_true_eq, Bool.not_eq_true', decide_eq_false_iff_not, ne_eq, reduceCtorEq, not_false_eq_true, DL.MulOk, at_0, at_1, at_2, Option.some.injEq, exists_eq_left, exists_eq_left', Int.reduceAdd, Int.reduceSub, Int.reduceMul, Int.reduceNeg, Int.reduceToNat, Int.reduceEq, Int.reduceLT, Int.reduceLE, Nat.reduceLeDiff, Nat.reduceLT, Nat.reduceEqDiff, sizeLine_eq]
    split
    · rename_i e; simpa [e] using h
    · rename_i e
      refine ⟨cut2n, max2_ev ?_⟩
      simp only [dSeq, dNext, dSet, dOwn, dRet, dRetN, dIfS, dDrop, dAsg, dPar, dAug, dSetIx, dApp, dClear, dRaise, dTest, dTru, truD, dAndT, dOrT, dNotT, dIf, dAndV, dOrV, dNotV, dOp, dUn, dCB, dBM, dNilA, dVar, dBor, dGive, dC, dCons, dNil, dTup, dLst, dSl, dPart, dNoPart, dIsi, nth, dstart, istart, dFld, dFldSet, putD, dgName, dgTup, dgCons, dgNil, dItL, dItT, dItS, dItR1, dItR2, dItE, dItZ, dYes, dMeth, dOr, Ends2, addD, iaddD, imulD, subD, mulD, fdivD, modD, powD, cmpD, eqD, neD, isD, isNotD, negD, absD, lenD, max2D, min2D, DL.intD, strD, tupleD, listD, catD, repD, slD, slDL, ixD, inSD, notInSD, startswithD, endswithD, findD, isdigitD, splitD, partitionD, joinD, lstripD, List.map_cons, List.map_nil, List.length_cons, List.length_nil, List.cons_append, List.nil_append, List.set_cons_zero, List.set_cons_succ, Nat.reduceAdd, Nat.reduceSub, List.replicate_succ, List.replicate_zero, List.tail_cons, Bool.false_eq_true, if_true, if_false, ite_true, ite_false, reduceIte, true_and, and_true, Bool.not_true, Bool.not_false, decide_eq_true_eq, Bool.not_eq_true', decide_eq_false_iff_not, ne_eq, reduceCtorEq, not_false_eq_true, DL.MulOk, at_0, at_1, at_2, Option.some.injEq, exists_eq_left, exists_eq_left', Int.reduceAdd, Int.reduceSub, Int.reduceMul, Int.reduceNeg, Int.reduceToNat, Int.reduceEq, Int.reduceLT, Int.reduceLE, Nat.reduceLeDiff, Nat.reduceLT, Nat.reduceEqDiff, sizeLine_eq]
      simpa [e] using h
  · split
    · rename_i e
      apply s_ret
      · intro Q E h
        simp only [dSeq, dNext, dSet, dOwn, dRet, dRetN, dIfS, dDrop, dAsg, dPar, dAug, dSetIx, dApp, dClear, dRaise, dTest, dTru, truD, dAndT, dOrT, dNotT, dIf, dAndV, dOrV, dNotV, dOp, dUn, dCB, dBM, dNilA, dVar, dBor, dGive, dC, dCons, dNil, dTup, dLst, dSl, dPart, dNoPart, dIsi, nth, dstart, istart, dFld, dFldSet, putD, dgName, dgTup, dgCons, dgNil, dItL, dItT, dItS, dItR1, dItR2, dItE, dItZ, dYes, dMeth, dOr, Ends2, addD, iaddD, imulD, subD, mulD, fdivD, modD, powD, cmpD, eqD, neD, isD, isNotD, negD, absD, lenD, max2D, min2D, DL.intD, strD, tupleD, listD, catD, repD, slD, slDL, ixD, inSD, notInSD, startswithD, endswithD, findD, isdigitD, splitD, partitionD, joinD, lstripD, List.map_cons, List.map_nil, List.length_cons, List.length_nil, List.cons_append, List.nil_append, List.set_cons_zero, List.set_cons_succ, Nat.reduceAdd, Nat.reduceSub, List.replicate_succ, List.replicate_zero, List.tail_cons, Bool.false_eq_true, if_true, if_false, ite_true, ite_false, reduceIte, true_and, and_true, Bool.not_true, Bool.not_false, decide_eq_true_eq, Bool.not_eq_true', decide_eq_false_iff_not, ne_eq, reduceCtorEq, not_false_eq_true, DL.MulOk, at_0, at_1, at_2, Option.some.injEq, exists_eq_left, exists_eq_left', Int.reduceAdd, Int.reduceSub, Int.reduceMul, Int.reduceNeg, Int.reduceToNat, Int.reduceEq, Int.reduceLT, Int.reduceLE, Nat.reduceLeDiff, Nat.reduceLT, Nat.reduceEqDiff, sizeLine_eq]
        exact h
      · simp only [e]; rfl
    · rename_i e
      apply s_next
      refine e_ret (d := .bl (decide ((c.natAbs : Int) ≤ last) && (decide (lo < 0) || decide (0 ≤ c)))) (fun Q E h => ?_) ?_
      · simp only [dSeq, dNext, dSet, dOwn, dRet, dRetN, dIfS, dDrop, dAsg, dPar, dAug, dSetIx, dApp, dClear, dRaise, dTest, dTru, truD, dAndT, dOrT, dNotT, dIf, dAndV, dOrV, dNotV, dOp, dUn, dCB, dBM, dNilA, dVar, dBor, dGive, dC, dCons, dNil, dTup, dLst, dSl, dPart, dNoPart, dIsi, nth, dstart, istart, dFld, dFldSet, putD, dgName, dgTup, dgCons, dgNil, dItL, dItT, dItS, dItR1, dItR2, dItE, dItZ, dYes, dMeth, dOr, Ends2, addD, iaddD, imulD, subD, mulD, fdivD, modD, powD, cmpD, eqD, neD, isD, isNotD, negD, absD, lenD, max2D, min2D, DL.intD, strD, tupleD, listD, catD, repD, slD, slDL, ixD, inSD, notInSD, startswithD, endswithD, findD, isdigitD, splitD, partitionD, joinD, lstripD, List.map_cons, List.map_nil, List.length_cons, List.length_nil, List.cons_append, List.nil_append, List.set_cons_zero, List.set_cons_succ, Nat.reduceAdd, Nat.reduceSub, List.replicate_succ, List.replicate_zero, List.tail_cons, Bool.false_eq_true, if_true, if_false, ite_true, ite_false, reduceIte, true_and, and_true, Bool.not_true, Bool.not_false, decide_eq_true_eq, Bool.not_eq_true', decide_eq_false_iff_not, ne_eq, reduceCtorEq, not_false_eq_true, DL.MulOk, at_0, at_1, at_2, Option.some.injEq, exists_eq_left, exists_eq_left', Int.reduceAdd, Int.reduceSub, Int.reduceMul, Int.reduceNeg, Int.reduceToNat, Int.reduceEq, Int.reduceLT, Int.reduceLE, Nat.reduceLeDiff, Nat.reduceLT, Nat.reduceEqDiff, sizeLine_eq, abs_nat]
        by_cases h1 : (c.natAbs : Int) ≤ last
        · by_cases h2 : lo < 0
          · simpa [h1, h2] using h
          · simpa [h1, h2] using h
        · simpa [h1] using h
      · simp only [Bool.not_eq_true] at e
        simp only [e]; rfl
def N_is_choose : List Str := ["upper", "lower", "low"]
def d_is_choose : DTS :=
  (dSeq (dIfS (dOrT (dNotT (dTru (dCall FS_within (dCons (dVar 0) (dCons (dC (.int 0)) (dCons (dC (.int 3)) (dCons (dC (.int 9)) dNil))))))) (dNotT (dTru (dCall FS_within (dCons (dVar 1) (dCons (dUn negD (dC (.int 3))) (dCons (dC (.int 3)) (dCons (dC (.int 9)) dNil)))))))) (dRet (dC (.bl false))) dNext)
  (dSeq (dFor (dItL (dLst (dCons (dVar 1) (dCons (dTup (dCons (dOp subD (dOp ixD (dBor 0) (dC (.int 0))) (dOp ixD (dBor 1) (dC (.int 0)))) (dCons (dOp subD (dOp ixD (dBor 0) (dC (.int 1))) (dOp ixD (dBor 1) (dC (.int 1)))) (dCons (dOp subD (dOp ixD (dBor 0) (dC (.int 2))) (dOp ixD (dBor 1) (dC (.int 2)))) dNil)))) dNil)))) (dgName 2) (dIfS (dAndT (dTest (dOp eqD (dOp ixD (dBor 2) (dC (.int 0))) (dC (.int 0)))) (dTest (dOp ltD (dOp ixD (dBor 2) (dC (.int 1))) (dC (.int 0))))) (dRet (dC (.bl false))) dNext))
  (dRet (dC (.bl true)))))
def mDiff (u l : Form) : Form := ⟨u.n - l.n, u.k - l.k, u.c - l.c⟩
def mLowOk (l : Form) : Bool := !(decide (l.n = 0) && decide (l.k < 0))
def mIsChoose (u l : Form) : Bool := mWithin u 0 3 9 && (mWithin l (-3) 3 9 && (mLowOk l && mLowOk (mDiff u l)))
def FS_is_choose : FS := { α := Form × Form, args := fun a => [fD a.1, fD a.2], pre := fun _ => True, out := fun a => .ok (.bl (mIsChoose a.1 a.2)) }
theorem hm_is_choose : ∀ a, FS_is_choose.pre a → d_is_choose (DDof false (FS_is_choose.out a)) (dstart N_is_choose (FS_is_choose.args a)) := by
  rintro ⟨u, l⟩ _
  unfold d_is_choose FS_is_choose N_is_choose
  dsimp only [dstart, istart, List.map_cons, List.map_nil, List.length_cons, List.length_nil, Nat.reduceAdd, Nat.reduceSub, List.replicate_succ, List.replicate_zero, List.cons_append, List.nil_append, List.tail_cons]
  refine s_if (evt_or (evt_not (evt_tru (ev_call (u, 0, 3, 9) (fun Q E h => by simp only [dSeq, dNext, dSet, dOwn, dRet, dRetN, dIfS, dDrop, dAsg, dPar, dAug, dSetIx, dApp, dClear, dRaise, dTest, dTru, truD, dAndT, dOrT, dNotT, dIf, dAndV, dOrV, dNotV, dOp, dUn, dCB, dBM, dNilA, dVar, dBor, dGive, dC, dCons, dNil, dTup, dLst, dSl, dPart, dNoPart, dIsi, nth, dstart, istart, dFld, dFldSet, putD, dgName, dgTup, dgCons, dgNil, dItL, dItT, dItS, dItR1, dItR2, dItE, dItZ, dYes, dMeth, dOr, Ends2, addD, iaddD, imulD, subD, mulD, fdivD, modD, powD, cmpD, eqD, neD, isD, isNotD, negD, absD, lenD, max2D, min2D, DL.intD, strD, tupleD, listD, catD, repD, slD, slDL, ixD, inSD, notInSD, startswithD, endswithD, findD, isdigitD, splitD, partitionD, joinD, lstripD, List.map_cons, List.map_nil, List.length_cons, List.length_nil, List.cons_append, List.nil_append, List.set_cons_zero, List.set_cons_succ, Nat.reduceAdd, Nat.reduceSub, List.replicate_succ, List.replicate_zero, List.tail_cons, Bool.false_eq_true, if_true, if_false, ite_true, ite_false, reduceIte, true_and, and_true, Bool.not_true, Bool.not_false, decide_eq_true_eq, Bool.not_eq_true', decide_eq_false_iff_not, ne_eq, reduceCtorEq, not_false_eq_true, DL.MulOk, at_0, at_1, at_2, Option.some.injEq, exists_eq_left, exists_eq_left', Int.reduceAdd, Int.reduceSub, Int.reduceMul, Int.reduceNeg, Int.reduceToNat, Int.reduceEq, Int.reduceLT, Int.reduceLE, Nat.reduceLeDiff, Nat.reduceLT, Nat.reduceEqDiff, sizeLine_eq]; exact h) trivial rfl))) fun _ => evt_not (evt_tru (ev_call (l, -3, 3, 9) (fun Q E h => by simp only [dSeq, dNext, dSet, dOwn, dRet, dRetN, dIfS, dDrop, dAsg, dPar, dAug, dSetIx, dApp, dClear, dRaise, dTest, dTru, truD, dAndT, dOrT, dNotT, dIf, dAndV, dOrV, dNotV, dOp, dUn, dCB, dBM, dNilA, dVar, dBor, dGive, dC, dCons, dNil, dTup, dLst, dSl, dPart, dNoPart, dIsi, nth, dstart, istart, dFld, dFldSet, putD, dgName, dgTup, dgCons, dgNil, dItL, dItT, dItS, dItR1, dItR2, dItE, dItZ, dYes, dMeth, dOr, Ends2, addD, iaddD, imulD, subD, mulD, fdivD, modD, powD, cmpD, eqD, neD, isD, isNotD, negD, absD, lenD, max2D, min2D, DL.intD, strD, tupleD, listD, catD, repD, slD, slDL, ixD, inSD, notInSD, startswithD, endswithD, findD, isdigitD, splitD, partitionD, joinD, lstripD, List.map_cons, List.map_nil, List.length_cons, List.length_nil, List.cons_append, List.nil_append, List.set_cons_zero, List.set_cons_succ, Nat.reduceAdd, Nat.reduceSub, List.replicate_succ, List.replicate_zero, List.tail_cons, Bool.false_eq_true, if_true, if_false, ite_true, ite_false, reduceIte, true_and, and_true, Bool.not_true, Bool.not_false, decide_eq_true_eq, Bool.not_eq_true', decide_eq_false_iff_not, ne_eq, reduceCtorEq, not_false_eq_true, DL.MulOk, at_0, at_1, at_2, Option.some.injEq, exists_eq_left, exists_eq_left', Int.reduceAdd, Int.reduceSub, Int.reduceMul, Int.reduceNeg, Int.reduceToNat, Int.reduceEq, Int.reduceLT, Int.reduceLE, Nat.reduceLeDiff, Nat.reduceLT, Nat.reduceEqDiff, sizeLine_eq]; exact h) trivial rfl))) ?_
  by_cases h : mWithin u 0 3 9 = true ∧ mWithin l (-3) 3 9 = true
  · rw [h.1, h.2]
    apply s_next
    refine for_i [fD l, fD (mDiff u l)] (fun i ρ => (∃ s, ρ = [.sh (fD u), .sh (fD l), s]) ∧ (1 ≤ i → mLowOk l = true) ∧ (2 ≤ i → mLowOk (mDiff u l) = true)) (fun Q h => ?_) ⟨⟨_, rfl⟩, by simp, by simp⟩ ?_ ?_
    · simp only [dSeq, dNext, dSet, dOwn, dRet, dRetN, dIfS, dDrop, dAsg, dPar, dAug, dSetIx, dApp, dClear, dRaise, dTest, dTru, truD, dAndT, dOrT, dNotT, dIf, dAndV, dOrV, dNotV, dOp, dUn, dCB, dBM, dNilA, dVar, dBor, dGive, dC, dCons, dNil, dTup, dLst, dSl, dPart, dNoPart, dIsi, nth, dstart, istart, dFld, dFldSet, putD, dgName, dgTup, dgCons, dgNil, dItL, dItT, dItS, dItR1, dItR2, dItE, dItZ, dYes, dMeth, dOr, Ends2, addD, iaddD, imulD, subD, mulD, fdivD, modD, powD, cmpD, eqD, neD, isD, isNotD, negD, absD, lenD, max2D, min2D, DL.intD, strD, tupleD, listD, catD, repD, slD, slDL, ixD, inSD, notInSD, startswithD, endswithD, findD, isdigitD, splitD, partitionD, joinD, lstripD, List.map_cons, List.map_nil, List.length_cons, List.length_nil, List.cons_append, List.nil_append, List.set_cons_zero, List.set_cons_succ, Nat.reduceAdd, Nat.reduceSub, List.replicate_succ, List.replicate_zero, List.tail_cons, Bool.false_eq_true, if_true, if_false, ite_true, ite_false, reduceIte, true_and, and_true, Bool.not_true, Bool.not_false, decide_eq_true_eq, Bool.not_eq_true', decide_eq_false_iff_not, ne_eq, reduceCtorEq, not_false_eq_true, DL.MulOk, at_0, at_1, at_2, Option.some.injEq, exists_eq_left, exists_eq_left', Int.reduceAdd, Int.reduceSub, Int.reduceMul, Int.reduceNeg, Int.reduceToNat, Int.reduceEq, Int.reduceLT, Int.reduceLE, Nat.reduceLeDiff, Nat.reduceLT, Nat.reduceEqDiff, sizeLine_eq, fD, mDiff]
      exact h
    · rintro i d ρ hd ⟨⟨s, rfl⟩, h1, h2⟩
      have key : ∀ f : Form, d = fD f → (mLowOk f = false → mIsChoose u l = false) → (mLowOk f = true → (1 ≤ i + 1 → mLowOk l = true) ∧ (2 ≤ i + 1 → mLowOk (mDiff u l) = true)) → dgName 2 d [.sh (fD u), .sh (fD l), s] fun ρ2 => (dIfS (dAndT (dTest (dOp eqD (dOp ixD (dBor 2) (dC (.int 0))) (dC (.int 0)))) (dTest (dOp ltD (dOp ixD (dBor 2) (dC (.int 1))) (dC (.int 0))))) (dRet (dC (.bl false))) dNext) { nx := fun ρ => (∃ s, ρ = [.sh (fD u), .sh (fD l), s]) ∧ (1 ≤ i + 1 → mLowOk l = true) ∧ (2 ≤ i + 1 → mLowOk (mDiff u l) = true), rt := fun d => (.ok (.bl (mIsChoose u l)) : Except Str D) = .ok d, ex := fun c _ => (.ok (.bl (mIsChoose u l)) : Except Str D) = .error c, ct := fun ρ => (∃ s, ρ = [.sh (fD u), .sh (fD l), s]) ∧ (1 ≤ i + 1 → mLowOk l = true) ∧ (2 ≤ i + 1 → mLowOk (mDiff u l) = true), bk := dRet (dC (.bl true)) (DDof false (.ok (.bl (mIsChoose u l)))) } ρ2 := by
        rintro f rfl k1 k2
        apply toSeq
        refine s_if (b := !mLowOk f) (fun Q E h => ?_) ?_
        · simp only [dSeq, dNext, dSet, dOwn, dRet, dRetN, dIfS, dDrop, dAsg, dPar, dAug, dSetIx, dApp, dClear, dRaise, dTest, dTru, truD, dAndT, dOrT, dNotT, dIf, dAndV, dOrV, dNotV, dOp, dUn, dCB, dBM, dNilA, dVar, dBor, dGive, dC, dCons, dNil, dTup, dLst, dSl, dPart, dNoPart, dIsi, nth, dstart, istart, dFld, dFldSet, putD, dgName, dgTup, dgCons, dgNil, dItL, dItT, dItS, dItR1, dItR2, dItE, dItZ, dYes, dMeth, dOr, Ends2, addD, iaddD, imulD, subD, mulD, fdivD, modD, powD, cmpD, eqD, neD, isD, isNotD, negD, absD, lenD, max2D, min2D, DL.intD, strD, tupleD, listD, catD, repD, slD, slDL, ixD, inSD, notInSD, startswithD, endswithD, findD, isdigitD, splitD, partitionD, joinD, lstripD, List.map_cons, List.map_nil, List.length_cons, List.length_nil, List.cons_append, List.nil_append, List.set_cons_zero, List.set_cons_succ, Nat.reduceAdd, Nat.reduceSub, List.replicate_succ, List.replicate_zero, List.tail_cons, Bool.false_eq_true, if_true, if_false, ite_true, ite_false, reduceIte, true_and, and_true, Bool.not_true, Bool.not_false, decide_eq_true_eq, Bool.not_eq_true', decide_eq_false_iff_not, ne_eq, reduceCtorEq, not_false_eq_true, DL.MulOk, at_0, at_1, at_2, Option.some.injEq, exists_eq_left, exists_eq_left', Int.reduceAdd, Int.reduceSub, Int.reduceMul, Int.reduceNeg, Int.reduceToNat, Int.reduceEq, Int.reduceLT, Int.reduceLE, Nat.reduceLeDiff, Nat.reduceLT, Nat.reduceEqDiff, sizeLine_eq, fD] at h ⊢
          unfold mLowOk at h
          by_cases c1 : f.n = 0
          · by_cases c2 : f.k < 0 <;> simpa [c1, c2] using h
          · simpa [c1] using h
        · cases e : mLowOk f with
          | false =>
            apply s_ret
            · intro Q E h
              simp only [dSeq, dNext, dSet, dOwn, dRet, dRetN, dIfS, dDrop, dAsg, dPar, dAug, dSetIx, dApp, dClear, dRaise, dTest, dTru, truD, dAndT, dOrT, dNotT, dIf, dAndV, dOrV, dNotV, dOp, dUn, dCB, dBM, dNilA, dVar, dBor, dGive, dC, dCons, dNil, dTup, dLst, dSl, dPart, dNoPart, dIsi, nth, dstart, istart, dFld, dFldSet, putD, dgName, dgTup, dgCons, dgNil, dItL, dItT, dItS, dItR1, dItR2, dItE, dItZ, dYes, dMeth, dOr, Ends2, addD, iaddD, imulD, subD, mulD, fdivD, modD, powD, cmpD, eqD, neD, isD, isNotD, negD, absD, lenD, max2D, min2D, DL.intD, strD, tupleD, listD, catD, repD, slD, slDL, ixD, inSD, notInSD, startswithD, endswithD, findD, isdigitD, splitD, partitionD, joinD, lstripD, List.map_cons, List.map_nil, List.length_cons, List.length_nil, List.cons_append, List.nil_append, List.set_cons_zero, List.set_cons_succ, Nat.reduceAdd, Nat.reduceSub, List.replicate_succ, List.replicate_zero, List.tail_cons, Bool.false_eq_true, if_true, if_false, ite_true, ite_false, reduceIte, true_and, and_true, Bool.not_true, Bool.not_false, decide_eq_true_eq, Bool.not_eq_true', decide_eq_false_iff_not, ne_eq, reduceCtorEq, not_false_eq_true, DL.MulOk, at_0, at_1, at_2, Option.some.injEq, exists_eq_left, exists_eq_left', Int.reduceAdd, Int.reduceSub, Int.reduceMul, Int.reduceNeg, Int.reduceToNat, Int.reduceEq, Int.reduceLT, Int.reduceLE, Nat.reduceLeDiff, Nat.reduceLT, Nat.reduceEqDiff, sizeLine_eq]
              exact h
            · show (.ok (.bl (mIsChoose u l)) : Except Str D) = .ok (.bl false)
              rw [k1 e]
          | true => exact ⟨⟨_, rfl⟩, k2 e⟩
      match i, hd with
      | 0, hd =>
        refine key l (by simpa using hd.symm) (fun e => ?_) fun e => ⟨fun _ => e, fun z => absurd z (by decide)⟩
        unfold mIsChoose; rw [e]; simp
      | 1, hd =>
        refine key (mDiff u l) (by simpa using hd.symm) (fun e => ?_) fun e => ⟨fun _ => h1 (by decide), fun _ => e⟩
        unfold mIsChoose; rw [e]; simp
    · rintro ρ ⟨⟨s, rfl⟩, h1, h2⟩
      dsimp only
      apply e_ret
      · intro Q E h
        simp only [dSeq, dNext, dSet, dOwn, dRet, dRetN, dIfS, dDrop, dAsg, dPar, dAug, dSetIx, dApp, dClear, dRaise, dTest, dTru, truD, dAndT, dOrT, dNotT, dIf, dAndV, dOrV, dNotV, dOp, dUn, dCB, dBM, dNilA, dVar, dBor, dGive, dC, dCons, dNil, dTup, dLst, dSl, dPart, dNoPart, dIsi, nth, dstart, istart, dFld, dFldSet, putD, dgName, dgTup, dgCons, dgNil, dItL, dItT, dItS, dItR1, dItR2, dItE, dItZ, dYes, dMeth, dOr, Ends2, addD, iaddD, imulD, subD, mulD, fdivD, modD, powD, cmpD, eqD, neD, isD, isNotD, negD, absD, lenD, max2D, min2D, DL.intD, strD, tupleD, listD, catD, repD, slD, slDL, ixD, inSD, notInSD, startswithD, endswithD, findD, isdigitD, splitD, partitionD, joinD, lstripD, List.map_cons, List.map_nil, List.length_cons, List.length_nil, List.cons_append, List.nil_append, List.set_cons_zero, List.set_cons_succ, Nat.reduceAdd, Nat.reduceSub, List.replicate_succ, List.replicate_zero, List.tail_cons, Bool.false_eq_true, if_true, if_false, ite_true, ite_false, reduceIte, true_and, and_true, Bool.not_true, Bool.not_false, decide_eq_true_eq, Bool.not_eq_true', decide_eq_false_iff_not, ne_eq, reduceCtorEq, not_false_eq_true, DL.MulOk, at_0, at_1, at_2, Option.some.injEq, exists_eq_left, exists_eq_left', Int.reduceAdd, Int.reduceSub, Int.reduceMul, Int.reduceNeg, Int.reduceToNat, Int.reduceEq, Int.reduceLT, Int.reduceLE, Nat.reduceLeDiff, Nat.reduceLT, Nat.reduceEqDiff, sizeLine_eq]
        exact h
      · show (.ok (.bl (mIsChoose u l)) : Except Str D) = .ok (.bl true)
        unfold mIsChoose
        rw [h.1, h.2, h1 (by simp), h2 (by simp)]
        rfl
  · have e : (!mWithin u 0 3 9 || !mWithin l (-3) 3 9) = true := by
      cases h1 : mWithin u 0 3 9 <;> cases h2 : mWithin l (-3) 3 9 <;> simp_all
    rw [e]
    apply s_ret
    · intro Q E h
      simp only [dSeq, dNext, dSet, dOwn, dRet, dRetN, dIfS, dDrop, dAsg, dPar, dAug, dSetIx, dApp, dClear, dRaise, dTest, dTru, truD, dAndT, dOrT, dNotT, dIf, dAndV, dOrV, dNotV, dOp, dUn, dCB, dBM, dNilA, dVar, dBor, dGive, dC, dCons, dNil, dTup, dLst, dSl, dPart, dNoPart, dIsi, nth, dstart, istart, dFld, dFldSet, putD, dgName, dgTup, dgCons, dgNil, dItL, dItT, dItS, dItR1, dItR2, dItE, dItZ, dYes, dMeth, dOr, Ends2, addD, iaddD, imulD, subD, mulD, fdivD, modD, powD, cmpD, eqD, neD, isD, isNotD, negD, absD, lenD, max2D, min2D, DL.intD, strD, tupleD, listD, catD, repD, slD, slDL, ixD, inSD, notInSD, startswithD, endswithD, findD, isdigitD, splitD, partitionD, joinD, lstripD, List.map_cons, List.map_nil, List.length_cons, List.length_nil, List.cons_append, List.nil_append, List.set_cons_zero, List.set_cons_succ, Nat.reduceAdd, Nat.reduceSub, List.replicate_succ, List.replicate_zero, List.tail_cons, Bool.false_eq_true, if_true, if_false, ite_true, ite_false, reduceIte, true_and, and_true, Bool.not_true, Bool.not_false, decide_eq_true_eq, Bool.not_eq_true', decide_eq_false_iff_not, ne_eq, reduceCtorEq, not_false_eq_true, DL.MulOk, at_0, at_1, at_2, Option.some.injEq, exists_eq_left, exists_eq_left', Int.reduceAdd, Int.reduceSub, Int.reduceMul, Int.reduceNeg, Int.reduceToNat, Int.reduceEq, Int.reduceLT, Int.reduceLE, Nat.reduceLeDiff, Nat.reduceLT, Nat.reduceEqDiff, sizeLine_eq]
      exact h
    · show (.ok (.bl (mIsChoose u l)) : Except Str D) = .ok (.bl false)
      unfold mIsChoose
      cases h1 : mWithin u 0 3 9 <;> cases h2 : mWithin l (-3) 3 9 <;> simp_all
end T57

end

section
namespace T57
open PySem PySem.Spec PyProof.Rows L2 DL
def N__law_part : List Str := ["_law_cells", "_law_most", "_law_way", "_law_cell"]
def d__law_part : DTS :=
  (dSeq (dSet 2 (dOp modD (dCall FS__law_mixed (dCons (dOp ixD (dBor 0) (dC (.int 0))) (dCons (dC (.int 0)) dNil))) (dC (.int 8))))
  (dSeq (dIfS (dAndT (dTest (dOp ltD (dBor 2) (dC (.int 4)))) (dTest (dOp gtD (dBor 1) (dC (.int 0))))) (dRet (dCall FS__law_forms (dCons (dCall FS__law_mixed (dCons (dOp ixD (dBor 0) (dC (.int 1))) (dCons (dC (.int 1)) dNil))) (dCons (dCall FS__law_mixed (dCons (dOp ixD (dBor 0) (dC (.int 2))) (dCons (dC (.int 2)) dNil))) (dCons (dVar 1) dNil))))) dNext)
  (dSeq (dIfS (dTest (dOp eqD (dBor 2) (dC (.int 6)))) (dRet (dTup (dCons (dC (.str "power")) (dCons (dCall FS__law_ratio (dCons (dOp ixD (dBor 0) (dC (.int 1))) (dCons (dOp ixD (dBor 0) (dC (.int 2))) dNil))) dNil)))) dNext)
  (dSeq (dIfS (dTest (dOp eqD (dBor 2) (dC (.int 7)))) (dRet (dTup (dCons (dC (.str "growth")) (dCons (dCall FS__law_ratio (dCons (dOp ixD (dBor 0) (dC (.int 1))) (dCons (dOp ixD (dBor 0) (dC (.int 2))) dNil))) dNil)))) dNext)
  (dRet (dTup (dCons (dC (.str "weight")) (dCons (dCB tupleD (dCons (dLc (dItL (dVar 0)) (dgName 3) dYes (dCall FS__law_number (dCons (dVar 3) (dCons (dOp powD (dC (.int 10)) (dC (.int 60))) dNil))) [3]) dNil)) dNil))))))))
def mPart (c : Int × Int × Int) (m : Int) : Part :=
  let w := (mMix c.1 0).fmod 8
  if w < 4 ∧ 0 < m then .cho (mHigh (mMix c.2.1 1)) (mLow (mMix c.2.1 1) (mMix c.2.2 2))
  else if w = 6 then .pow (mRatio c.2.1 c.2.2) else if w = 7 then .gro (mRatio c.2.1 c.2.2)
  else .wei ⟨mNum c.1 (10 ^ 60), mNum c.2.1 (10 ^ 60), mNum c.2.2 (10 ^ 60)⟩
def FS__law_part : FS := { α := (Int × Int × Int) × Int, args := fun a => [.lst [.int a.1.1, .int a.1.2.1, .int a.1.2.2], .int a.2], pre := fun a => a.2 = 3 ∨ a.2 = 0, out := fun a => .ok (pD (mPart a.1 a.2)) }
theorem ev_vari {ρ : DEnv} {i : Nat} {d : D} (h : nth ρ i = .sh d) : Ev (dVar i) ρ d ρ := fun Q E k => by
  unfold dVar
  rw [h]
  exact k
theorem ev_bori {ρ : DEnv} {i : Nat} {d : D} (h : nth ρ i = .sh d) : Ev (dBor i) ρ d ρ := fun Q E k => by
  unfold dBor
  rw [h]
  exact k
theorem ev_borO {ρ : DEnv} {i : Nat} {d : D} (h : nth ρ i = .ow d) : Ev (dBor i) ρ d ρ := fun Q E k => by
  unfold dBor
  rw [h]
  exact k
theorem ev_c {ρ : DEnv} {d : D} : Ev (dC d) ρ d ρ := fun Q E k => k
def numOf : D → D
  | .int c => .int (mNum c (10 ^ 60))
  | d => d
theorem hm__law_part : ∀ a, FS__law_part.pre a → d__law_part (DDof false (FS__law_part.out a)) (dstart N__law_part (FS__law_part.args a)) := by
  rintro ⟨⟨a, b, c⟩, m⟩ hm
  have hm : m = 3 ∨ m = 0 := hm
  unfold d__law_part FS__law_part N__law_part
  dsimp only [dstart, istart, List.map_cons, List.map_nil, List.length_cons, List.length_nil, Nat.reduceAdd, Nat.reduceSub, List.replicate_succ, List.replicate_zero, List.cons_append, List.nil_append, List.tail_cons]
  have p60 : CPowD 10 60 := ⟨by decide, by decide, by decide⟩
  apply s_set
  · refine ev_op (ev_call (a, 0) (fun Q E h => ?_) (show (0 : Nat) ≤ 63 by decide) rfl) ev_c (r := .int ((mMix a 0).fmod 8)) fun P h => ?_
    · simp only [dSeq, dNext, dSet, dOwn, dRet, dRetN, dIfS, dDrop, dAsg, dPar, dAug, dSetIx, dApp, dClear, dRaise, dTest, dTru, truD, dAndT, dOrT, dNotT, dIf, dAndV, dOrV, dNotV, dOp, dUn, dCB, dBM, dNilA, dVar, dBor, dGive, dC, dCons, dNil, dTup, dLst, dSl, dPart, dNoPart, dIsi, nth, dstart, istart, dFld, dFldSet, putD, dgName, dgTup, dgCons, dgNil, dItL, dItT, dItS, dItR1, dItR2, dItE, dItZ, dYes, dMeth, dOr, Ends2, addD, iaddD, imulD, subD, mulD, fdivD, modD, powD, cmpD, eqD, neD, isD, isNotD, negD, absD, lenD, max2D, min2D, DL.intD, strD, tupleD, listD, catD, repD, slD, slDL, ixD, inSD, notInSD, startswithD, endswithD, findD, isdigitD, splitD, partitionD, joinD, lstripD, List.map_cons, List.map_nil, List.length_cons, List.length_nil, List.cons_append, List.nil_append, List.set_cons_zero, List.set_cons_succ, Nat.reduceAdd, Nat.reduceSub, List.replicate_succ, List.replicate_zero, List.tail_cons, Bool.false_eq_true, if_true, if_false, ite_true, ite_false, reduceIte, true_and, and_true, Bool.not_true, Bool.not_false, decide_eq_true_eq, Bool.not_eq_true', decide_eq_false_iff_not, ne_eq, reduceCtorEq, not_false_eq_true, DL.MulOk, at_0, at_1, at_2, Option.some.injEq, exists_eq_left, exists_eq_left', Int.reduceAdd, Int.reduceSub, Int.reduceMul, Int.reduceNeg, Int.reduceToNat, Int.reduceEq, Int.reduceLT, Int.reduceLE, Nat.reduceLeDiff, Nat.reduceLT, Nat.reduceEqDiff, sizeLine_eq]
      exact h
    · simp only [dSeq, dNext, dSet, dOwn, dRet, dRetN, dIfS, dDrop, dAsg, dPar, dAug, dSetIx, dApp, dClear, dRaise, dTest, dTru, truD, dAndT, dOrT, dNotT, dIf, dAndV, dOrV, dNotV, dOp, dUn, dCB, dBM, dNilA, dVar, dBor, dGive, dC, dCons, dNil, dTup, dLst, dSl, dPart, dNoPart, dIsi, nth, dstart, istart, dFld, dFldSet, putD, dgName, dgTup, dgCons, dgNil, dItL, dItT, dItS, dItR1, dItR2, dItE, dItZ, dYes, dMeth, dOr, Ends2, addD, iaddD, imulD, subD, mulD, fdivD, modD, powD, cmpD, eqD, neD, isD, isNotD, negD, absD, lenD, max2D, min2D, DL.intD, strD, tupleD, listD, catD, repD, slD, slDL, ixD, inSD, notInSD, startswithD, endswithD, findD, isdigitD, splitD, partitionD, joinD, lstripD, List.map_cons, List.map_nil, List.length_cons, List.length_nil, List.cons_append, List.nil_append, List.set_cons_zero, List.set_cons_succ, Nat.reduceAdd, Nat.reduceSub, List.replicate_succ, List.replicate_zero, List.tail_cons, Bool.false_eq_true, if_true, if_false, ite_true, ite_false, reduceIte, true_and, and_true, Bool.not_true, Bool.not_false, decide_eq_true_eq, Bool.not_eq_true', decide_eq_false_iff_not, ne_eq, reduceCtorEq, not_false_eq_true, DL.MulOk, at_0, at_1, at_2, Option.some.injEq, exists_eq_left, exists_eq_left', Int.reduceAdd, Int.reduceSub, Int.reduceMul, Int.reduceNeg, Int.reduceToNat, Int.reduceEq, Int.reduceLT, Int.reduceLE, Nat.reduceLeDiff, Nat.reduceLT, Nat.reduceEqDiff, sizeLine_eq]
      exact h
  refine s_if (b := decide ((mMix a 0).fmod 8 < 4) && decide (0 < m)) (fun Q E h => ?_) ?_
  · simp only [dSeq, dNext, dSet, dOwn, dRet, dRetN, dIfS, dDrop, dAsg, dPar, dAug, dSetIx, dApp, dClear, dRaise, dTest, dTru, truD, dAndT, dOrT, dNotT, dIf, dAndV, dOrV, dNotV, dOp, dUn, dCB, dBM, dNilA, dVar, dBor, dGive, dC, dCons, dNil, dTup, dLst, dSl, dPart, dNoPart, dIsi, nth, dstart, istart, dFld, dFldSet, putD, dgName, dgTup, dgCons, dgNil, dItL, dItT, dItS, dItR1, dItR2, dItE, dItZ, dYes, dMeth, dOr, Ends2, addD, iaddD, imulD, subD, mulD, fdivD, modD, powD, cmpD, eqD, neD, isD, isNotD, negD, absD, lenD, max2D, min2D, DL.intD, strD, tupleD, listD, catD, repD, slD, slDL, ixD, inSD, notInSD, startswithD, endswithD, findD, isdigitD, splitD, partitionD, joinD, lstripD, List.map_cons, List.map_nil, List.length_cons, List.length_nil, List.cons_append, List.nil_append, List.set_cons_zero, List.set_cons_succ, Nat.reduceAdd, Nat.reduceSub, List.replicate_succ, List.replicate_zero, List.tail_cons, Bool.false_eq_true, if_true, if_false, ite_true, ite_false, reduceIte, true_and, and_true, Bool.not_true, Bool.not_false, decide_eq_true_eq, Bool.not_eq_true', decide_eq_false_iff_not, ne_eq, reduceCtorEq, not_false_eq_true, DL.MulOk, at_0, at_1, at_2, Option.some.injEq, exists_eq_left, exists_eq_left', Int.reduceAdd, Int.reduceSub, Int.reduceMul, Int.reduceNeg, Int.reduceToNat, Int.reduceEq, Int.reduceLT, Int.reduceLE, Nat.reduceLeDiff, Nat.reduceLT, Nat.reduceEqDiff, sizeLine_eq]
    by_cases c1 : (mMix a 0).fmod 8 < 4 <;> simpa [c1] using h
  unfold mPart
  by_cases c1 : (mMix a 0).fmod 8 < 4 ∧ 0 < m
  · simp only [c1, decide_true, Bool.and_self, if_true, and_self]
    have hm : m = 3 := by omega
    subst hm
    apply s_ret
    · refine ev_call (mMix b 1, mMix c 2) ?_ trivial rfl
      refine eva_cons (ev_call (b, 1) (fun Q E h => ?_) (show (1 : Nat) ≤ 63 by decide) rfl) (eva_cons (ev_call (c, 2) (fun Q E h => ?_) (show (2 : Nat) ≤ 63 by decide) rfl) (eva_cons (ev_vari rfl) eva_nil))
      · simp only [dSeq, dNext, dSet, dOwn, dRet, dRetN, dIfS, dDrop, dAsg, dPar, dAug, dSetIx, dApp, dClear, dRaise, dTest, dTru, truD, dAndT, dOrT, dNotT, dIf, dAndV, dOrV, dNotV, dOp, dUn, dCB, dBM, dNilA, dVar, dBor, dGive, dC, dCons, dNil, dTup, dLst, dSl, dPart, dNoPart, dIsi, nth, dstart, istart, dFld, dFldSet, putD, dgName, dgTup, dgCons, dgNil, dItL, dItT, dItS, dItR1, dItR2, dItE, dItZ, dYes, dMeth, dOr, Ends2, addD, iaddD, imulD, subD, mulD, fdivD, modD, powD, cmpD, eqD, neD, isD, isNotD, negD, absD, lenD, max2D, min2D, DL.intD, strD, tupleD, listD, catD, repD, slD, slDL, ixD, inSD, notInSD, startswithD, endswithD, findD, isdigitD, splitD, partitionD, joinD, lstripD, List.map_cons, List.map_nil, List.length_cons, List.length_nil, List.cons_append, List.nil_append, List.set_cons_zero, List.set_cons_succ, Nat.reduceAdd, Nat.reduceSub, List.replicate_succ, List.replicate_zero, List.tail_cons, Bool.false_eq_true, if_true, if_false, ite_true, ite_false, reduceIte, true_and, and_true, Bool.not_true, Bool.not_false, decide_eq_true_eq, Bool.not_eq_true', decide_eq_false_iff_not, ne_eq, reduceCtorEq, not_false_eq_true, DL.MulOk, at_0, at_1, at_2, Option.some.injEq, exists_eq_left, exists_eq_left', Int.reduceAdd, Int.reduceSub, Int.reduceMul, Int.reduceNeg, Int.reduceToNat, Int.reduceEq, Int.reduceLT, Int.reduceLE, Nat.reduceLeDiff, Nat.reduceLT, Nat.reduceEqDiff, sizeLine_eq]
        exact h
      · simp only [dSeq, dNext, dSet, dOwn, dRet, dRetN, dIfS, dDrop, dAsg, dPar, dAug, dSetIx, dApp, dClear, dRaise, dTest, dTru, truD, dAndT, dOrT, dNotT, dIf, dAndV, dOrV, dNotV, dOp, dUn, dCB, dBM, dNilA, dVar, dBor, dGive, dC, dCons, dNil, dTup, dLst, dSl, dPart, dNoPart, dIsi, nth, dstart, istart, dFld, dFldSet, putD, dgName, dgTup, dgCons, dgNil, dItL, dItT, dItS, dItR1, dItR2, dItE, dItZ, dYes, dMeth, dOr, Ends2, addD, iaddD, imulD, subD, mulD, fdivD, modD, powD, cmpD, eqD, neD, isD, isNotD, negD, absD, lenD, max2D, min2D, DL.intD, strD, tupleD, listD, catD, repD, slD, slDL, ixD, inSD, notInSD, startswithD, endswithD, findD, isdigitD, splitD, partitionD, joinD, lstripD, List.map_cons, List.map_nil, List.length_cons, List.length_nil, List.cons_append, List.nil_append, List.set_cons_zero, List.set_cons_succ, Nat.reduceAdd, Nat.reduceSub, List.replicate_succ, List.replicate_zero, List.tail_cons, Bool.false_eq_true, if_true, if_false, ite_true, ite_false, reduceIte, true_and, and_true, Bool.not_true, Bool.not_false, decide_eq_true_eq, Bool.not_eq_true', decide_eq_false_iff_not, ne_eq, reduceCtorEq, not_false_eq_true, DL.MulOk, at_0, at_1, at_2, Option.some.injEq, exists_eq_left, exists_eq_left', Int.reduceAdd, Int.reduceSub, Int.reduceMul, Int.reduceNeg, Int.reduceToNat, Int.reduceEq, Int.reduceLT, Int.reduceLE, Nat.reduceLeDiff, Nat.reduceLT, Nat.reduceEqDiff, sizeLine_eq]
        exact h
    · rfl
  · have e : (decide ((mMix a 0).fmod 8 < 4) && decide (0 < m)) = false := by simpa using c1
    rw [e, if_neg Bool.false_ne_true, if_neg c1]
    apply s_next
    refine s_if (b := decide ((mMix a 0).fmod 8 = 6)) (fun Q E h => by simp only [dSeq, dNext, dSet, dOwn, dRet, dRetN, dIfS, dDrop, dAsg, dPar, dAug, dSetIx, dApp, dClear, dRaise, dTest, dTru, truD, dAndT, dOrT, dNotT, dIf, dAndV, dOrV, dNotV, dOp, dUn, dCB, dBM, dNilA, dVar, dBor, dGive, dC, dCons, dNil, dTup, dLst, dSl, dPart, dNoPart, dIsi, nth, dstart, istart, dFld, dFldSet, putD, dgName, dgTup, dgCons, dgNil, dItL, dItT, dItS, dItR1, dItR2, dItE, dItZ, dYes, dMeth, dOr, Ends2, addD, iaddD, imulD, subD, mulD, fdivD, modD, powD, cmpD, eqD, neD, isD, isNotD, negD, absD, lenD, max2D, min2D, DL.intD, strD, tupleD, listD, catD, repD, slD, slDL, ixD, inSD, notInSD, startswithD, endswithD, findD, isdigitD, splitD, partitionD, joinD, lstripD, List.map_cons, List.map_nil, List.length_cons, List.length_nil, List.cons_append, List.nil_append, List.set_cons_zero, List.set_cons_succ, Nat.reduceAdd, Nat.reduceSub, List.replicate_succ, List.replicate_zero, List.tail_cons, Bool.false_eq_true, if_true, if_false, ite_true, ite_false, reduceIte, true_and, and_true, Bool.not_true, Bool.not_false, decide_eq_true_eq, Bool.not_eq_true', decide_eq_false_iff_not, ne_eq, reduceCtorEq, not_false_eq_true, DL.MulOk, at_0, at_1, at_2, Option.some.injEq, exists_eq_left, exists_eq_left', Int.reduceAdd, Int.reduceSub, Int.reduceMul, Int.reduceNeg, Int.reduceToNat, Int.reduceEq, Int.reduceLT, Int.reduceLE, Nat.reduceLeDiff, Nat.reduceLT, Nat.reduceEqDiff, sizeLine_eq]; exact h) ?_
    by_cases c2 : (mMix a 0).fmod 8 = 6
    · simp only [c2, decide_true, if_true]
      apply s_ret
      · refine ev_tup (eva_cons ev_c (eva_cons (ev_call (b, c) (fun Q E h => ?_) trivial rfl) eva_nil)) (show (2 : Nat) ≤ sizeLine by decide)
        simp only [dSeq, dNext, dSet, dOwn, dRet, dRetN, dIfS, dDrop, dAsg, dPar, dAug, dSetIx, dApp, dClear, dRaise, dTest, dTru, truD, dAndT, dOrT, dNotT, dIf, dAndV, dOrV, dNotV, dOp, dUn, dCB, dBM, dNilA, dVar, dBor, dGive, dC, dCons, dNil, dTup, dLst, dSl, dPart, dNoPart, dIsi, nth, dstart, istart, dFld, dFldSet, putD, dgName, dgTup, dgCons, dgNil, dItL, dItT, dItS, dItR1, dItR2, dItE, dItZ, dYes, dMeth, dOr, Ends2, addD, iaddD, imulD, subD, mulD, fdivD, modD, powD, cmpD, eqD, neD, isD, isNotD, negD, absD, lenD, max2D, min2D, DL.intD, strD, tupleD, listD, catD, repD, slD, slDL, ixD, inSD, notInSD, startswithD, endswithD, findD, isdigitD, splitD, partitionD, joinD, lstripD, List.map_cons, List.map_nil, List.length_cons, List.length_nil, List.cons_append, List.nil_append, List.set_cons_zero, List.set_cons_succ, Nat.reduceAdd, Nat.reduceSub, List.replicate_succ, List.replicate_zero, List.tail_cons, Bool.false_eq_true, if_true, if_false, ite_true, ite_false, reduceIte, true_and, and_true, Bool.not_true, Bool.not_false, decide_eq_true_eq, Bool.not_eq_true', decide_eq_false_iff_not, ne_eq, reduceCtorEq, not_false_eq_true, DL.MulOk, at_0, at_1, at_2, Option.some.injEq, exists_eq_left, exists_eq_left', Int.reduceAdd, Int.reduceSub, Int.reduceMul, Int.reduceNeg, Int.reduceToNat, Int.reduceEq, Int.reduceLT, Int.reduceLE, Nat.reduceLeDiff, Nat.reduceLT, Nat.reduceEqDiff, sizeLine_eq]
        exact h
      · rfl
    · simp only [c2, decide_false, if_false, Bool.false_eq_true]
      apply s_next
      refine s_if (b := decide ((mMix a 0).fmod 8 = 7)) (fun Q E h => by simp only [dSeq, dNext, dSet, dOwn, dRet, dRetN, dIfS, dDrop, dAsg, dPar, dAug, dSetIx, dApp, dClear, dRaise, dTest, dTru, truD, dAndT, dOrT, dNotT, dIf, dAndV, dOrV, dNotV, dOp, dUn, dCB, dBM, dNilA, dVar, dBor, dGive, dC, dCons, dNil, dTup, dLst, dSl, dPart, dNoPart, dIsi, nth, dstart, istart, dFld, dFldSet, putD, dgName, dgTup, dgCons, dgNil, dItL, dItT, dItS, dItR1, dItR2, dItE, dItZ, dYes, dMeth, dOr, Ends2, addD, iaddD, imulD, subD, mulD, fdivD, modD, powD, cmpD, eqD, neD, isD, isNotD, negD, absD, lenD, max2D, min2D, DL.intD, strD, tupleD, listD, catD, repD, slD, slDL, ixD, inSD, notInSD, startswithD, endswithD, findD, isdigitD, splitD, partitionD, joinD, lstripD, List.map_cons, List.map_nil, List.length_cons, List.length_nil, List.cons_append, List.nil_append, List.set_cons_zero, List.set_cons_succ, Nat.reduceAdd, Nat.reduceSub, List.replicate_succ, List.replicate_zero, List.tail_cons, Bool.false_eq_true, if_true, if_false, ite_true, ite_false, reduceIte, true_and, and_true, Bool.not_true, Bool.not_false, decide_eq_true_eq, Bool.not_eq_true', decide_eq_false_iff_not, ne_eq, reduceCtorEq, not_false_eq_true, DL.MulOk, at_0, at_1, at_2, Option.some.injEq, exists_eq_left, exists_eq_left', Int.reduceAdd, Int.reduceSub, Int.reduceMul, Int.reduceNeg, Int.reduceToNat, Int.reduceEq, Int.reduceLT, Int.reduceLE, Nat.reduceLeDiff, Nat.reduceLT, Nat.reduceEqDiff, sizeLine_eq]; exact h) ?_
      by_cases c3 : (mMix a 0).fmod 8 = 7
      · simp only [c3, decide_true, if_true]
        apply s_ret
        · refine ev_tup (eva_cons ev_c (eva_cons (ev_call (b, c) (fun Q E h => ?_) trivial rfl) eva_nil)) (show (2 : Nat) ≤ sizeLine by decide)
          simp only [dSeq, dNext, dSet, dOwn, dRet, dRetN, dIfS, dDrop, dAsg, dPar, dAug, dSetIx, dApp, dClear, dRaise, dTest, dTru, truD, dAndT, dOrT, dNotT, dIf, dAndV, dOrV, dNotV, dOp, dUn, dCB, dBM, dNilA, dVar, dBor, dGive, dC, dCons, dNil, dTup, dLst, dSl, dPart, dNoPart, dIsi, nth, dstart, istart, dFld, dFldSet, putD, dgName, dgTup, dgCons, dgNil, dItL, dItT, dItS, dItR1, dItR2, dItE, dItZ, dYes, dMeth, dOr, Ends2, addD, iaddD, imulD, subD, mulD, fdivD, modD, powD, cmpD, eqD, neD, isD, isNotD, negD, absD, lenD, max2D, min2D, DL.intD, strD, tupleD, listD, catD, repD, slD, slDL, ixD, inSD, notInSD, startswithD, endswithD, findD, isdigitD, splitD, partitionD, joinD, lstripD, List.map_cons, List.map_nil, List.length_cons, List.length_nil, List.cons_append, List.nil_append, List.set_cons_zero, List.set_cons_succ, Nat.reduceAdd, Nat.reduceSub, List.replicate_succ, List.replicate_zero, List.tail_cons, Bool.false_eq_true, if_true, if_false, ite_true, ite_false, reduceIte, true_and, and_true, Bool.not_true, Bool.not_false, decide_eq_true_eq, Bool.not_eq_true', decide_eq_false_iff_not, ne_eq, reduceCtorEq, not_false_eq_true, DL.MulOk, at_0, at_1, at_2, Option.some.injEq, exists_eq_left, exists_eq_left', Int.reduceAdd, Int.reduceSub, Int.reduceMul, Int.reduceNeg, Int.reduceToNat, Int.reduceEq, Int.reduceLT, Int.reduceLE, Nat.reduceLeDiff, Nat.reduceLT, Nat.reduceEqDiff, sizeLine_eq]
          exact h
        · rfl
      · simp only [c3, decide_false, if_false, Bool.false_eq_true]
        apply s_next
        apply e_ret
        · refine ev_tup (eva_cons ev_c (eva_cons (ev_cb (eva_cons (ev_lcmap [.int a, .int b, .int c] numOf (fun Q E h => ?_) (show (3 : Nat) ≤ sizeLine by decide) fun d hd Q' k => ?_) eva_nil) (d := .tup [.int (mNum a (10 ^ 60)), .int (mNum b (10 ^ 60)), .int (mNum c (10 ^ 60))]) fun P h => h) eva_nil)) (show (2 : Nat) ≤ sizeLine by decide)
          · simp only [dSeq, dNext, dSet, dOwn, dRet, dRetN, dIfS, dDrop, dAsg, dPar, dAug, dSetIx, dApp, dClear, dRaise, dTest, dTru, truD, dAndT, dOrT, dNotT, dIf, dAndV, dOrV, dNotV, dOp, dUn, dCB, dBM, dNilA, dVar, dBor, dGive, dC, dCons, dNil, dTup, dLst, dSl, dPart, dNoPart, dIsi, nth, dstart, istart, dFld, dFldSet, putD, dgName, dgTup, dgCons, dgNil, dItL, dItT, dItS, dItR1, dItR2, dItE, dItZ, dYes, dMeth, dOr, Ends2, addD, iaddD, imulD, subD, mulD, fdivD, modD, powD, cmpD, eqD, neD, isD, isNotD, negD, absD, lenD, max2D, min2D, DL.intD, strD, tupleD, listD, catD, repD, slD, slDL, ixD, inSD, notInSD, startswithD, endswithD, findD, isdigitD, splitD, partitionD, joinD, lstripD, List.map_cons, List.map_nil, List.length_cons, List.length_nil, List.cons_append, List.nil_append, List.set_cons_zero, List.set_cons_succ, Nat.reduceAdd, Nat.reduceSub, List.replicate_succ, List.replicate_zero, List.tail_cons, Bool.false_eq_true, if_true, if_false, ite_true, ite_false, reduceIte, true_and, and_true, Bool.not_true, Bool.not_false, decide_eq_true_eq, Bool.not_eq_true', decide_eq_false_iff_not, ne_eq, reduceCtorEq, not_false_eq_true, DL.MulOk, at_0, at_1, at_2, Option.some.injEq, exists_eq_left, exists_eq_left', Int.reduceAdd, Int.reduceSub, Int.reduceMul, Int.reduceNeg, Int.reduceToNat, Int.reduceEq, Int.reduceLT, Int.reduceLE, Nat.reduceLeDiff, Nat.reduceLT, Nat.reduceEqDiff, sizeLine_eq]
            exact h
          · have key : ∀ x : Int, d = .int x → dgName 3 d (wipeD [.sh (.lst [.int a, .int b, .int c]), .sh (.int m), .sh (.int ((mMix a 0).fmod 8)), .em] [3]) fun ρ2 => dCall FS__law_number (dCons (dVar 3) (dCons (dOp powD (dC (.int 10)) (dC (.int 60))) dNil)) ρ2 Q' fun _ _ => False := by
              rintro x rfl
              refine ev_call (S := FS__law_number) (d := .int (mNum x (10 ^ 60))) (x, 10 ^ 60) (fun Q E h => ?_) ⟨(by decide : (1 : Int) ≤ 10 ^ 60), (by decide : (10 : Int) ^ 60 < 2 ^ 250)⟩ rfl _ _ (k _ rfl)
              simp only [dSeq, dNext, dSet, dOwn, dRet, dRetN, dIfS, dDrop, dAsg, dPar, dAug, dSetIx, dApp, dClear, dRaise, dTest, dTru, truD, dAndT, dOrT, dNotT, dIf, dAndV, dOrV, dNotV, dOp, dUn, dCB, dBM, dNilA, dVar, dBor, dGive, dC, dCons, dNil, dTup, dLst, dSl, dPart, dNoPart, dIsi, nth, dstart, istart, dFld, dFldSet, putD, dgName, dgTup, dgCons, dgNil, dItL, dItT, dItS, dItR1, dItR2, dItE, dItZ, dYes, dMeth, dOr, Ends2, addD, iaddD, imulD, subD, mulD, fdivD, modD, powD, cmpD, eqD, neD, isD, isNotD, negD, absD, lenD, max2D, min2D, DL.intD, strD, tupleD, listD, catD, repD, slD, slDL, ixD, inSD, notInSD, startswithD, endswithD, findD, isdigitD, splitD, partitionD, joinD, lstripD, List.map_cons, List.map_nil, List.length_cons, List.length_nil, List.cons_append, List.nil_append, List.set_cons_zero, List.set_cons_succ, Nat.reduceAdd, Nat.reduceSub, List.replicate_succ, List.replicate_zero, List.tail_cons, Bool.false_eq_true, if_true, if_false, ite_true, ite_false, reduceIte, true_and, and_true, Bool.not_true, Bool.not_false, decide_eq_true_eq, Bool.not_eq_true', decide_eq_false_iff_not, ne_eq, reduceCtorEq, not_false_eq_true, DL.MulOk, at_0, at_1, at_2, Option.some.injEq, exists_eq_left, exists_eq_left', Int.reduceAdd, Int.reduceSub, Int.reduceMul, Int.reduceNeg, Int.reduceToNat, Int.reduceEq, Int.reduceLT, Int.reduceLE, Nat.reduceLeDiff, Nat.reduceLT, Nat.reduceEqDiff, sizeLine_eq, p60]
              exact h
            simp only [List.mem_cons, List.not_mem_nil, or_false] at hd
            rcases hd with h | h | h <;> exact key _ h
        · rfl
end T57

end

section
namespace T57
open PySem PySem.Spec PyProof.Rows L2 DL
def N__law_parts : List Str := ["_law_script", "_law_mosts", "_law_found", "_law_k", "_law_part_here", "_law_j"]
def d__law_parts : DTS :=
  (dSeq (dOwn 2 (dLst dNil))
  (dSeq (dFor (dItR1 (dCons (dOp addD (dC (.int 1)) (dOp modD (dCall FS__law_cell_at (dCons (dVar 0) (dCons (dC (.int 0)) dNil))) (dC (.int 6)))) dNil)) (dgName 3) (dSeq (dSet 4 (dCall FS__law_part (dCons (dLc (dItR1 (dCons (dC (.int 3)) dNil)) (dgName 5) dYes (dCall FS__law_cell_at (dCons (dVar 0) (dCons (dOp addD (dOp addD (dC (.int 1)) (dOp mulD (dC (.int 3)) (dBor 3))) (dBor 5)) dNil))) [5]) (dCons (dOp ixD (dBor 1) (dC (.int 0))) dNil))))
  (dSeq (dIfS (dTest (dOp eqD (dOp ixD (dBor 4) (dC (.int 0))) (dC (.str "choose")))) (dSet 1 (dOp addD (dSl slD (dBor 1) (dPart (dC (.int 1))) dNoPart) (dLst (dCons (dC (.int 0)) dNil)))) dNext)
  (dApp 2 (dVar 4)))))
  (dRet (dVar 2))))
def isCho : Part → Bool
  | .cho _ _ => true
  | _ => false
def mPartAt (s : List Int) (i : Nat) (m : Int) : Part := mPart (cellAt s (1 + 3 * i), cellAt s (1 + 3 * i + 1), cellAt s (1 + 3 * i + 2)) m
def mGo (s : List Int) : Nat → List Part × List Int
  | 0 => ([], [3, 3, 3, 3, 3, 3])
  | i + 1 => ((mGo s i).1 ++ [mPartAt s i ((mGo s i).2.headD 0)], if isCho (mPartAt s i ((mGo s i).2.headD 0)) then (mGo s i).2.tail ++ [0] else (mGo s i).2)
def mCount (s : List Int) : Nat := 1 + ((cellAt s 0).fmod 6).toNat
def mParts (s : List Int) : List Part := (mGo s (mCount s)).1
def FS__law_parts : FS := { α := List Int, args := fun a => [.fz (a.map D.int), .lst [.int 3, .int 3, .int 3, .int 3, .int 3, .int 3]], pre := fun _ => True, out := fun a => .ok (.lst ((mParts a).map pD)) }
theorem mGo_succ (s : List Int) (i : Nat) : mGo s (i + 1) = ((mGo s i).1 ++ [mPartAt s i ((mGo s i).2.headD 0)], if isCho (mPartAt s i ((mGo s i).2.headD 0)) then (mGo s i).2.tail ++ [0] else (mGo s i).2) := rfl
def wordP : Part → Str
  | .cho _ _ => "choose"
  | .wei _ => "weight"
  | .pow _ => "power"
  | .gro _ => "growth"
theorem ev_word {ρ : DEnv} {k : Nat} {p : Part} (h : nth ρ k = .sh (pD p)) : Ev (dOp ixD (dBor k) (dC (.int 0))) ρ (.str (wordP p)) ρ :=
  ev_op (ev_bori h) ev_c fun P hP => by cases p <;> exact ⟨_, at_0, hP⟩
theorem ev_cho {ρ : DEnv} {k : Nat} {p : Part} (h : nth ρ k = .sh (pD p)) : EvT (dTest (dOp eqD (dOp ixD (dBor k) (dC (.int 0))) (dC (.str "choose")))) ρ (isCho p) ρ :=
  evt_test (ev_op (ev_word h) ev_c fun P hP => by
    show P (.bl (decide (wordP p = "choose")))
    have e : decide (wordP p = "choose") = isCho p := by
      cases p
      · exact (by decide : decide (("choose" : Str) = "choose") = true)
      · exact (by decide : decide (("weight" : Str) = "choose") = false)
      · exact (by decide : decide (("power" : Str) = "choose") = false)
      · exact (by decide : decide (("growth" : Str) = "choose") = false)
    rw [e]
    exact hP)
theorem mGo_len (s : List Int) : ∀ i, (mGo s i).1.length = i ∧ (mGo s i).2.length = 6 ∧ ∀ x ∈ (mGo s i).2, x = 3 ∨ x = 0
  | 0 => ⟨rfl, rfl, by simp [mGo]⟩
  | i + 1 => by
    obtain ⟨h1, h2, h3⟩ := mGo_len s i
    rw [mGo_succ]
    refine ⟨by simp [h1], ?_, fun x hx => ?_⟩
    · split
      · simp [h2]
      · exact h2
    · dsimp only at hx
      split at hx
      · rcases List.mem_append.mp hx with hx | hx
        · exact h3 x (List.mem_of_mem_tail hx)
        · simp at hx; exact .inr hx
      · exact h3 x hx
theorem cho_word (p : Part) : ∃ r, pD p = .tup (.str (if isCho p then "choose" else match p with | .wei _ => "weight" | .pow _ => "power" | _ => "growth") :: r) := by
  cases p <;> exact ⟨_, rfl⟩
theorem cut1 {ds : List D} {d : D} : DL.cutD (d :: ds) (some 1) none = ds := by
  unfold DL.cutD
  have h1 : HT.sIx (d :: ds).length 0 (some 1) = 1 := by
    have := HT.sIx_nat (d :: ds).length 0 1
    simp at this
    exact this
  have h2 : HT.sIx (d :: ds).length (d :: ds).length none = (d :: ds).length := rfl
  rw [h1, h2]
  simp
def cellOf (s : List Int) (i : Nat) : D → D
  | .int j => .int (cellAt s (1 + 3 * i + j.toNat))
  | d => d
theorem hm__law_parts : ∀ a, FS__law_parts.pre a → d__law_parts (DDof false (FS__law_parts.out a)) (dstart N__law_parts (FS__law_parts.args a)) := by
  intro (s : List Int) _
  unfold d__law_parts FS__law_parts N__law_parts
  dsimp only [dstart, istart, List.map_cons, List.map_nil, List.length_cons, List.length_nil, Nat.reduceAdd, Nat.reduceSub, List.replicate_succ, List.replicate_zero, List.cons_append, List.nil_append, List.tail_cons]
  have hm := fmod_lt (a := cellAt s 0) (b := 6) (by decide)
  apply s_own
  · intro Q E h
    simp only [dSeq, dNext, dSet, dOwn, dRet, dRetN, dIfS, dDrop, dAsg, dPar, dAug, dSetIx, dApp, dClear, dRaise, dTest, dTru, truD, dAndT, dOrT, dNotT, dIf, dAndV, dOrV, dNotV, dOp, dUn, dCB, dBM, dNilA, dVar, dBor, dGive, dC, dCons, dNil, dTup, dLst, dSl, dPart, dNoPart, dIsi, nth, dstart, istart, dFld, dFldSet, putD, dgName, dgTup, dgCons, dgNil, dItL, dItT, dItS, dItR1, dItR2, dItE, dItZ, dYes, dMeth, dOr, Ends2, addD, iaddD, imulD, subD, mulD, fdivD, modD, powD, cmpD, eqD, neD, isD, isNotD, negD, absD, lenD, max2D, min2D, DL.intD, strD, tupleD, listD, catD, repD, slD, slDL, ixD, inSD, notInSD, startswithD, endswithD, findD, isdigitD, splitD, partitionD, joinD, lstripD, List.map_cons, List.map_nil, List.length_cons, List.length_nil, List.cons_append, List.nil_append, List.set_cons_zero, List.set_cons_succ, Nat.reduceAdd, Nat.reduceSub, List.replicate_succ, List.replicate_zero, List.tail_cons, Bool.false_eq_true, if_true, if_false, ite_true, ite_false, reduceIte, true_and, and_true, Bool.not_true, Bool.not_false, decide_eq_true_eq, Bool.not_eq_true', decide_eq_false_iff_not, ne_eq, reduceCtorEq, not_false_eq_true, DL.MulOk, at_0, at_1, at_2, Option.some.injEq, exists_eq_left, exists_eq_left', Int.reduceAdd, Int.reduceSub, Int.reduceMul, Int.reduceNeg, Int.reduceToNat, Int.reduceEq, Int.reduceLT, Int.reduceLE, Nat.reduceLeDiff, Nat.reduceLT, Nat.reduceEqDiff, sizeLine_eq]
    exact h
  refine for_i (rangeD 0 (mCount s)) (fun i ρ => ∃ s1 s2, ρ = [.sh (.fz (s.map D.int)), .sh (.lst ((mGo s i).2.map D.int)), .ow (.lst ((mGo s i).1.map pD)), s1, s2, .em]) (fun Q h => ?_) ⟨_, _, rfl⟩ ?_ ?_
  · simp only [dSeq, dNext, dSet, dOwn, dRet, dRetN, dIfS, dDrop, dAsg, dPar, dAug, dSetIx, dApp, dClear, dRaise, dTest, dTru, truD, dAndT, dOrT, dNotT, dIf, dAndV, dOrV, dNotV, dOp, dUn, dCB, dBM, dNilA, dVar, dBor, dGive, dC, dCons, dNil, dTup, dLst, dSl, dPart, dNoPart, dIsi, nth, dstart, istart, dFld, dFldSet, putD, dgName, dgTup, dgCons, dgNil, dItL, dItT, dItS, dItR1, dItR2, dItE, dItZ, dYes, dMeth, dOr, Ends2, addD, iaddD, imulD, subD, mulD, fdivD, modD, powD, cmpD, eqD, neD, isD, isNotD, negD, absD, lenD, max2D, min2D, DL.intD, strD, tupleD, listD, catD, repD, slD, slDL, ixD, inSD, notInSD, startswithD, endswithD, findD, isdigitD, splitD, partitionD, joinD, lstripD, List.map_cons, List.map_nil, List.length_cons, List.length_nil, List.cons_append, List.nil_append, List.set_cons_zero, List.set_cons_succ, Nat.reduceAdd, Nat.reduceSub, List.replicate_succ, List.replicate_zero, List.tail_cons, Bool.false_eq_true, if_true, if_false, ite_true, ite_false, reduceIte, true_and, and_true, Bool.not_true, Bool.not_false, decide_eq_true_eq, Bool.not_eq_true', decide_eq_false_iff_not, ne_eq, reduceCtorEq, not_false_eq_true, DL.MulOk, at_0, at_1, at_2, Option.some.injEq, exists_eq_left, exists_eq_left', Int.reduceAdd, Int.reduceSub, Int.reduceMul, Int.reduceNeg, Int.reduceToNat, Int.reduceEq, Int.reduceLT, Int.reduceLE, Nat.reduceLeDiff, Nat.reduceLT, Nat.reduceEqDiff, sizeLine_eq]
    refine (ev_call (S := FS__law_cell_at) (s, 0) (fun Q E h => ?_) trivial rfl) _ _ ?_
    · simp only [dSeq, dNext, dSet, dOwn, dRet, dRetN, dIfS, dDrop, dAsg, dPar, dAug, dSetIx, dApp, dClear, dRaise, dTest, dTru, truD, dAndT, dOrT, dNotT, dIf, dAndV, dOrV, dNotV, dOp, dUn, dCB, dBM, dNilA, dVar, dBor, dGive, dC, dCons, dNil, dTup, dLst, dSl, dPart, dNoPart, dIsi, nth, dstart, istart, dFld, dFldSet, putD, dgName, dgTup, dgCons, dgNil, dItL, dItT, dItS, dItR1, dItR2, dItE, dItZ, dYes, dMeth, dOr, Ends2, addD, iaddD, imulD, subD, mulD, fdivD, modD, powD, cmpD, eqD, neD, isD, isNotD, negD, absD, lenD, max2D, min2D, DL.intD, strD, tupleD, listD, catD, repD, slD, slDL, ixD, inSD, notInSD, startswithD, endswithD, findD, isdigitD, splitD, partitionD, joinD, lstripD, List.map_cons, List.map_nil, List.length_cons, List.length_nil, List.cons_append, List.nil_append, List.set_cons_zero, List.set_cons_succ, Nat.reduceAdd, Nat.reduceSub, List.replicate_succ, List.replicate_zero, List.tail_cons, Bool.false_eq_true, if_true, if_false, ite_true, ite_false, reduceIte, true_and, and_true, Bool.not_true, Bool.not_false, decide_eq_true_eq, Bool.not_eq_true', decide_eq_false_iff_not, ne_eq, reduceCtorEq, not_false_eq_true, DL.MulOk, at_0, at_1, at_2, Option.some.injEq, exists_eq_left, exists_eq_left', Int.reduceAdd, Int.reduceSub, Int.reduceMul, Int.reduceNeg, Int.reduceToNat, Int.reduceEq, Int.reduceLT, Int.reduceLE, Nat.reduceLeDiff, Nat.reduceLT, Nat.reduceEqDiff, sizeLine_eq]
      exact h
    · simp only [dSeq, dNext, dSet, dOwn, dRet, dRetN, dIfS, dDrop, dAsg, dPar, dAug, dSetIx, dApp, dClear, dRaise, dTest, dTru, truD, dAndT, dOrT, dNotT, dIf, dAndV, dOrV, dNotV, dOp, dUn, dCB, dBM, dNilA, dVar, dBor, dGive, dC, dCons, dNil, dTup, dLst, dSl, dPart, dNoPart, dIsi, nth, dstart, istart, dFld, dFldSet, putD, dgName, dgTup, dgCons, dgNil, dItL, dItT, dItS, dItR1, dItR2, dItE, dItZ, dYes, dMeth, dOr, Ends2, addD, iaddD, imulD, subD, mulD, fdivD, modD, powD, cmpD, eqD, neD, isD, isNotD, negD, absD, lenD, max2D, min2D, DL.intD, strD, tupleD, listD, catD, repD, slD, slDL, ixD, inSD, notInSD, startswithD, endswithD, findD, isdigitD, splitD, partitionD, joinD, lstripD, List.map_cons, List.map_nil, List.length_cons, List.length_nil, List.cons_append, List.nil_append, List.set_cons_zero, List.set_cons_succ, Nat.reduceAdd, Nat.reduceSub, List.replicate_succ, List.replicate_zero, List.tail_cons, Bool.false_eq_true, if_true, if_false, ite_true, ite_false, reduceIte, true_and, and_true, Bool.not_true, Bool.not_false, decide_eq_true_eq, Bool.not_eq_true', decide_eq_false_iff_not, ne_eq, reduceCtorEq, not_false_eq_true, DL.MulOk, at_0, at_1, at_2, Option.some.injEq, exists_eq_left, exists_eq_left', Int.reduceAdd, Int.reduceSub, Int.reduceMul, Int.reduceNeg, Int.reduceToNat, Int.reduceEq, Int.reduceLT, Int.reduceLE, Nat.reduceLeDiff, Nat.reduceLT, Nat.reduceEqDiff, sizeLine_eq]
      have e : (1 + (cellAt s 0).fmod 6).toNat = mCount s := by unfold mCount; omega
      exact ⟨by omega, by omega, by rw [e]; exact h⟩
  · rintro i d ρ hd ⟨s1, s2, rfl⟩
    obtain ⟨rfl, hi⟩ := rangeD_at hd
    obtain ⟨h1, h2, h3⟩ := mGo_len s i
    obtain ⟨m, r, hms⟩ : ∃ m r, (mGo s i).2 = m :: r := by
      cases e : (mGo s i).2 with
      | nil => rw [e] at h2; simp at h2
      | cons m r => exact ⟨m, r, rfl⟩
    have hm3 : m = 3 ∨ m = 0 := h3 m (by rw [hms]; exact List.mem_cons_self)
    have hp : mPartAt s i m = mPartAt s i ((mGo s i).2.headD 0) := by rw [hms]; rfl
    have g1 : (mGo s (i + 1)).1.map pD = (mGo s i).1.map pD ++ [pD (mPartAt s i m)] := by rw [hp, mGo_succ]; simp
    have g2 : (mGo s (i + 1)).2.map D.int = if isCho (mPartAt s i m) = true then r.map D.int ++ [.int 0] else D.int m :: r.map D.int := by
      rw [hp, mGo_succ]
      dsimp only
      split
      · rw [hms]; simp
      · rw [hms]; simp
    apply g_name
    rw [hms]
    apply s_set
    · refine ev_call (S := FS__law_part) ((cellAt s (1 + 3 * i), cellAt s (1 + 3 * i + 1), cellAt s (1 + 3 * i + 2)), m) ?_ hm3 rfl
      refine eva_cons (ev_lcm (rangeD 0 3) (cellOf s i) (fun Q E h => ?_) (show (3 : Nat) ≤ sizeLine by decide) fun d hd Q' k => ?_) (eva_cons (fun Q E h => ?_) eva_nil)
      · simp only [dSeq, dNext, dSet, dOwn, dRet, dRetN, dIfS, dDrop, dAsg, dPar, dAug, dSetIx, dApp, dClear, dRaise, dTest, dTru, truD, dAndT, dOrT, dNotT, dIf, dAndV, dOrV, dNotV, dOp, dUn, dCB, dBM, dNilA, dVar, dBor, dGive, dC, dCons, dNil, dTup, dLst, dSl, dPart, dNoPart, dIsi, nth, dstart, istart, dFld, dFldSet, putD, dgName, dgTup, dgCons, dgNil, dItL, dItT, dItS, dItR1, dItR2, dItE, dItZ, dYes, dMeth, dOr, Ends2, addD, iaddD, imulD, subD, mulD, fdivD, modD, powD, cmpD, eqD, neD, isD, isNotD, negD, absD, lenD, max2D, min2D, DL.intD, strD, tupleD, listD, catD, repD, slD, slDL, ixD, inSD, notInSD, startswithD, endswithD, findD, isdigitD, splitD, partitionD, joinD, lstripD, List.map_cons, List.map_nil, List.length_cons, List.length_nil, List.cons_append, List.nil_append, List.set_cons_zero, List.set_cons_succ, Nat.reduceAdd, Nat.reduceSub, List.replicate_succ, List.replicate_zero, List.tail_cons, Bool.false_eq_true, if_true, if_false, ite_true, ite_false, reduceIte, true_and, and_true, Bool.not_true, Bool.not_false, decide_eq_true_eq, Bool.not_eq_true', decide_eq_false_iff_not, ne_eq, reduceCtorEq, not_false_eq_true, DL.MulOk, at_0, at_1, at_2, Option.some.injEq, exists_eq_left, exists_eq_left', Int.reduceAdd, Int.reduceSub, Int.reduceMul, Int.reduceNeg, Int.reduceToNat, Int.reduceEq, Int.reduceLT, Int.reduceLE, Nat.reduceLeDiff, Nat.reduceLT, Nat.reduceEqDiff, sizeLine_eq]
        exact ⟨by decide, by decide, h⟩
      · obtain ⟨j, hj⟩ := List.getElem?_of_mem hd
        obtain ⟨rfl, hj⟩ := rangeD_at hj
        refine (ev_call (S := FS__law_cell_at) (d := cellOf s i (.int (0 + (j : Int)))) (s, 1 + 3 * i + j) (fun Q E h => ?_) trivial ?_) _ _ (k _ rfl)
        · have m3 : IntMulOk 3 (0 + (i : Int)) := mul_l (by decide)
          simp only [dSeq, dNext, dSet, dOwn, dRet, dRetN, dIfS, dDrop, dAsg, dPar, dAug, dSetIx, dApp, dClear, dRaise, dTest, dTru, truD, dAndT, dOrT, dNotT, dIf, dAndV, dOrV, dNotV, dOp, dUn, dCB, dBM, dNilA, dVar, dBor, dGive, dC, dCons, dNil, dTup, dLst, dSl, dPart, dNoPart, dIsi, nth, dstart, istart, dFld, dFldSet, putD, dgName, dgTup, dgCons, dgNil, dItL, dItT, dItS, dItR1, dItR2, dItE, dItZ, dYes, dMeth, dOr, Ends2, addD, iaddD, imulD, subD, mulD, fdivD, modD, powD, cmpD, eqD, neD, isD, isNotD, negD, absD, lenD, max2D, min2D, DL.intD, strD, tupleD, listD, catD, repD, slD, slDL, ixD, inSD, notInSD, startswithD, endswithD, findD, isdigitD, splitD, partitionD, joinD, lstripD, List.map_cons, List.map_nil, List.length_cons, List.length_nil, List.cons_append, List.nil_append, List.set_cons_zero, List.set_cons_succ, Nat.reduceAdd, Nat.reduceSub, List.replicate_succ, List.replicate_zero, List.tail_cons, Bool.false_eq_true, if_true, if_false, ite_true, ite_false, reduceIte, true_and, and_true, Bool.not_true, Bool.not_false, decide_eq_true_eq, Bool.not_eq_true', decide_eq_false_iff_not, ne_eq, reduceCtorEq, not_false_eq_true, DL.MulOk, at_0, at_1, at_2, Option.some.injEq, exists_eq_left, exists_eq_left', Int.reduceAdd, Int.reduceSub, Int.reduceMul, Int.reduceNeg, Int.reduceToNat, Int.reduceEq, Int.reduceLT, Int.reduceLE, Nat.reduceLeDiff, Nat.reduceLT, Nat.reduceEqDiff, sizeLine_eq, wipeD]
          have e : (1 : Int) + 3 * (0 + i) + (0 + j) = ((1 + 3 * i + j : Nat) : Int) := by omega
          rw [e]
          exact ⟨m3, h⟩
        · show (.ok (.int (cellAt s (1 + 3 * i + j))) : Except Str D) = .ok (.int (cellAt s (1 + 3 * i + (0 + (j : Int)).toNat)))
          have e : (0 + (j : Int)).toNat = j := by omega
          rw [e]
      · simp only [dSeq, dNext, dSet, dOwn, dRet, dRetN, dIfS, dDrop, dAsg, dPar, dAug, dSetIx, dApp, dClear, dRaise, dTest, dTru, truD, dAndT, dOrT, dNotT, dIf, dAndV, dOrV, dNotV, dOp, dUn, dCB, dBM, dNilA, dVar, dBor, dGive, dC, dCons, dNil, dTup, dLst, dSl, dPart, dNoPart, dIsi, nth, dstart, istart, dFld, dFldSet, putD, dgName, dgTup, dgCons, dgNil, dItL, dItT, dItS, dItR1, dItR2, dItE, dItZ, dYes, dMeth, dOr, Ends2, addD, iaddD, imulD, subD, mulD, fdivD, modD, powD, cmpD, eqD, neD, isD, isNotD, negD, absD, lenD, max2D, min2D, DL.intD, strD, tupleD, listD, catD, repD, slD, slDL, ixD, inSD, notInSD, startswithD, endswithD, findD, isdigitD, splitD, partitionD, joinD, lstripD, List.map_cons, List.map_nil, List.length_cons, List.length_nil, List.cons_append, List.nil_append, List.set_cons_zero, List.set_cons_succ, Nat.reduceAdd, Nat.reduceSub, List.replicate_succ, List.replicate_zero, List.tail_cons, Bool.false_eq_true, if_true, if_false, ite_true, ite_false, reduceIte, true_and, and_true, Bool.not_true, Bool.not_false, decide_eq_true_eq, Bool.not_eq_true', decide_eq_false_iff_not, ne_eq, reduceCtorEq, not_false_eq_true, DL.MulOk, at_0, at_1, at_2, Option.some.injEq, exists_eq_left, exists_eq_left', Int.reduceAdd, Int.reduceSub, Int.reduceMul, Int.reduceNeg, Int.reduceToNat, Int.reduceEq, Int.reduceLT, Int.reduceLE, Nat.reduceLeDiff, Nat.reduceLT, Nat.reduceEqDiff, sizeLine_eq]
        exact h
    refine s_if (ev_cho (p := mPartAt s i m) rfl) ?_
    have hl : ((mGo s i).1.map pD).length < sizeLine := by
      rw [List.length_map, h1, sizeLine_eq]
      have : mCount s ≤ 6 := by unfold mCount; omega
      omega
    have fin : ∀ ms : List D, (mGo s (i + 1)).2.map D.int = ms → dSeq (dApp 2 (dVar 4)) dNext { nx := fun ρ => ∃ s1 s2, ρ = [.sh (.fz (s.map D.int)), .sh (.lst ((mGo s (i + 1)).2.map D.int)), .ow (.lst ((mGo s (i + 1)).1.map pD)), s1, s2, .em], rt := fun d => (.ok (.lst ((mParts s).map pD)) : Except Str D) = .ok d, ex := fun c _ => (.ok (.lst ((mParts s).map pD)) : Except Str D) = .error c, bk := dRet (dVar 2) (DDof false (.ok (.lst ((mParts s).map pD)))), ct := fun ρ => ∃ s1 s2, ρ = [.sh (.fz (s.map D.int)), .sh (.lst ((mGo s (i + 1)).2.map D.int)), .ow (.lst ((mGo s (i + 1)).1.map pD)), s1, s2, .em] } [.sh (.fz (s.map D.int)), .sh (.lst ms), .ow (.lst ((mGo s i).1.map pD)), .sh (.int (0 + (i : Int))), .sh (pD (mPartAt s i m)), .em] := by
      rintro ms rfl
      refine s_app rfl hl (ev_vari rfl) ?_
      rw [← g1]
      exact ⟨_, _, rfl⟩
    cases e : isCho (mPartAt s i m) with
    | true =>
      rw [if_pos rfl]
      rw [e, if_pos rfl] at g2
      apply s_set
      · intro Q E h
        simp only [dSeq, dNext, dSet, dOwn, dRet, dRetN, dIfS, dDrop, dAsg, dPar, dAug, dSetIx, dApp, dClear, dRaise, dTest, dTru, truD, dAndT, dOrT, dNotT, dIf, dAndV, dOrV, dNotV, dOp, dUn, dCB, dBM, dNilA, dVar, dBor, dGive, dC, dCons, dNil, dTup, dLst, dSl, dPart, dNoPart, dIsi, nth, dstart, istart, dFld, dFldSet, putD, dgName, dgTup, dgCons, dgNil, dItL, dItT, dItS, dItR1, dItR2, dItE, dItZ, dYes, dMeth, dOr, Ends2, addD, iaddD, imulD, subD, mulD, fdivD, modD, powD, cmpD, eqD, neD, isD, isNotD, negD, absD, lenD, max2D, min2D, DL.intD, strD, tupleD, listD, catD, repD, slD, slDL, ixD, inSD, notInSD, startswithD, endswithD, findD, isdigitD, splitD, partitionD, joinD, lstripD, List.map_cons, List.map_nil, List.length_cons, List.length_nil, List.cons_append, List.nil_append, List.set_cons_zero, List.set_cons_succ, Nat.reduceAdd, Nat.reduceSub, List.replicate_succ, List.replicate_zero, List.tail_cons, Bool.false_eq_true, if_true, if_false, ite_true, ite_false, reduceIte, true_and, and_true, Bool.not_true, Bool.not_false, decide_eq_true_eq, Bool.not_eq_true', decide_eq_false_iff_not, ne_eq, reduceCtorEq, not_false_eq_true, DL.MulOk, at_0, at_1, at_2, Option.some.injEq, exists_eq_left, exists_eq_left', Int.reduceAdd, Int.reduceSub, Int.reduceMul, Int.reduceNeg, Int.reduceToNat, Int.reduceEq, Int.reduceLT, Int.reduceLE, Nat.reduceLeDiff, Nat.reduceLT, Nat.reduceEqDiff, sizeLine_eq, cut1]
        refine ⟨?_, h⟩
        rw [List.length_map]
        have : r.length = 5 := by rw [hms] at h2; simpa using h2
        omega
      · exact fin _ g2
    | false =>
      rw [if_neg Bool.false_ne_true]
      rw [e, if_neg Bool.false_ne_true] at g2
      apply s_next
      exact fin _ g2
  · rintro ρ ⟨s1, s2, rfl⟩
    dsimp only
    apply e_ret'
    · intro Q E h
      simp only [dSeq, dNext, dSet, dOwn, dRet, dRetN, dIfS, dDrop, dAsg, dPar, dAug, dSetIx, dApp, dClear, dRaise, dTest, dTru, truD, dAndT, dOrT, dNotT, dIf, dAndV, dOrV, dNotV, dOp, dUn, dCB, dBM, dNilA, dVar, dBor, dGive, dC, dCons, dNil, dTup, dLst, dSl, dPart, dNoPart, dIsi, nth, dstart, istart, dFld, dFldSet, putD, dgName, dgTup, dgCons, dgNil, dItL, dItT, dItS, dItR1, dItR2, dItE, dItZ, dYes, dMeth, dOr, Ends2, addD, iaddD, imulD, subD, mulD, fdivD, modD, powD, cmpD, eqD, neD, isD, isNotD, negD, absD, lenD, max2D, min2D, DL.intD, strD, tupleD, listD, catD, repD, slD, slDL, ixD, inSD, notInSD, startswithD, endswithD, findD, isdigitD, splitD, partitionD, joinD, lstripD, List.map_cons, List.map_nil, List.length_cons, List.length_nil, List.cons_append, List.nil_append, List.set_cons_zero, List.set_cons_succ, Nat.reduceAdd, Nat.reduceSub, List.replicate_succ, List.replicate_zero, List.tail_cons, Bool.false_eq_true, if_true, if_false, ite_true, ite_false, reduceIte, true_and, and_true, Bool.not_true, Bool.not_false, decide_eq_true_eq, Bool.not_eq_true', decide_eq_false_iff_not, ne_eq, reduceCtorEq, not_false_eq_true, DL.MulOk, at_0, at_1, at_2, Option.some.injEq, exists_eq_left, exists_eq_left', Int.reduceAdd, Int.reduceSub, Int.reduceMul, Int.reduceNeg, Int.reduceToNat, Int.reduceEq, Int.reduceLT, Int.reduceLE, Nat.reduceLeDiff, Nat.reduceLT, Nat.reduceEqDiff, sizeLine_eq]
      exact h
    · rw [rangeD_len]
      rfl
end T57

end

section
namespace T57
open PySem PySem.Spec PyProof.Rows L2 DL
/-! instances -/
def partI : Part → D
  | .cho u l => .ins "Choose" [("high", fD u), ("lows", .lst [fD l, fD (mDiff u l)])]
  | .wei f => .ins "Weight" [("form", fD f)]
  | .pow r => .ins "Power" [("fraction", rD r)]
  | .gro r => .ins "Growth" [("fraction", rD r)]
def termI (ps : List Part) : D := .ins "Term" [("made", .lst (ps.map partI)), ("words", .lst (ps.map pD))]
theorem s_fld {i : Nat} {Cs : List Str} {f : Str} {t : DTE} {w : DTS} {DD : DEnds} {ρ : DEnv} {d : D} {C : Str} {fs : List (Str × D)} (h : Ev t ρ d ρ) (hn : nth ρ i = .ow (.ins C fs)) (hc : C ∈ Cs) (hl : fs.length < 1000)
    (k : w DD (ρ.set i (.ow (.ins C (putD f d fs))))) : dSeq (dFldSet i Cs f t) w DD ρ := h _ _ (by
  show (match nth ρ i with | .ow (.ins C fs) => _ | _ => _)
  rw [hn]
  exact ⟨hc, hl, k⟩)
def N_Choose___init__ : List Str := ["self", "high", "low"]
def d_Choose___init__ : DTS :=
  (dSeq (dFldSet 0 ["Choose"] "high" (dVar 1))
  (dFldSet 0 ["Choose"] "lows" (dLst (dCons (dVar 2) (dCons (dTup (dCons (dOp subD (dOp ixD (dBor 1) (dC (.int 0))) (dOp ixD (dBor 2) (dC (.int 0)))) (dCons (dOp subD (dOp ixD (dBor 1) (dC (.int 1))) (dOp ixD (dBor 2) (dC (.int 1)))) (dCons (dOp subD (dOp ixD (dBor 1) (dC (.int 2))) (dOp ixD (dBor 2) (dC (.int 2)))) dNil)))) dNil)))))
def FS_Choose___init__ : FS := { α := Form × Form, args := fun a => [fD a.1, fD a.2], pre := fun _ => True, out := fun a => .ok (partI (.cho a.1 a.2)) }
theorem hm_Choose___init__ : ∀ a, FS_Choose___init__.pre a → d_Choose___init__ (DDin (FS_Choose___init__.out a)) (istart N_Choose___init__ "Choose" (FS_Choose___init__.args a)) := by
  rintro ⟨u, l⟩ _
  unfold d_Choose___init__ FS_Choose___init__ N_Choose___init__
  dsimp only [dstart, istart, List.map_cons, List.map_nil, List.length_cons, List.length_nil, Nat.reduceAdd, Nat.reduceSub, List.replicate_succ, List.replicate_zero, List.cons_append, List.nil_append, List.tail_cons]
  refine s_fld (ev_vari rfl) rfl (by decide) (by decide) ?_
  apply toSeq
  refine s_fld (ev_lst (eva_cons (ev_vari rfl) (eva_cons (d := fD (mDiff u l)) (fun Q E h => ?_) eva_nil)) (show (2 : Nat) ≤ sizeLine by decide)) rfl (by decide) (show (1 : Nat) < 1000 by decide) ?_
  · simp only [dSeq, dNext, dSet, dOwn, dRet, dRetN, dIfS, dDrop, dAsg, dPar, dAug, dSetIx, dApp, dClear, dRaise, dTest, dTru, truD, dAndT, dOrT, dNotT, dIf, dAndV, dOrV, dNotV, dOp, dUn, dCB, dBM, dNilA, dVar, dBor, dGive, dC, dCons, dNil, dTup, dLst, dSl, dPart, dNoPart, dIsi, nth, dstart, istart, dFld, dFldSet, putD, dgName, dgTup, dgCons, dgNil, dItL, dItT, dItS, dItR1, dItR2, dItE, dItZ, dYes, dMeth, dOr, Ends2, addD, iaddD, imulD, subD, mulD, fdivD, modD, powD, cmpD, eqD, neD, isD, isNotD, negD, absD, lenD, max2D, min2D, DL.intD, strD, tupleD, listD, catD, repD, slD, slDL, ixD, inSD, notInSD, startswithD, endswithD, findD, isdigitD, splitD, partitionD, joinD, lstripD, List.map_cons, List.map_nil, List.length_cons, List.length_nil, List.cons_append, List.nil_append, List.set_cons_zero, List.set_cons_succ, Nat.reduceAdd, Nat.reduceSub, List.replicate_succ, List.replicate_zero, List.tail_cons, Bool.false_eq_true, if_true, if_false, ite_true, ite_false, reduceIte, true_and, and_true, Bool.not_true, Bool.not_false, decide_eq_true_eq, Bool.not_eq_true', decide_eq_false_iff_not, ne_eq, reduceCtorEq, not_false_eq_true, DL.MulOk, at_0, at_1, at_2, Option.some.injEq, exists_eq_left, exists_eq_left', Int.reduceAdd, Int.reduceSub, Int.reduceMul, Int.reduceNeg, Int.reduceToNat, Int.reduceEq, Int.reduceLT, Int.reduceLE, Nat.reduceLeDiff, Nat.reduceLT, Nat.reduceEqDiff, sizeLine_eq, fD]
    simp only [dSeq, dNext, dSet, dOwn, dRet, dRetN, dIfS, dDrop, dAsg, dPar, dAug, dSetIx, dApp, dClear, dRaise, dTest, dTru, truD, dAndT, dOrT, dNotT, dIf, dAndV, dOrV, dNotV, dOp, dUn, dCB, dBM, dNilA, dVar, dBor, dGive, dC, dCons, dNil, dTup, dLst, dSl, dPart, dNoPart, dIsi, nth, dstart, istart, dFld, dFldSet, putD, dgName, dgTup, dgCons, dgNil, dItL, dItT, dItS, dItR1, dItR2, dItE, dItZ, dYes, dMeth, dOr, Ends2, addD, iaddD, imulD, subD, mulD, fdivD, modD, powD, cmpD, eqD, neD, isD, isNotD, negD, absD, lenD, max2D, min2D, DL.intD, strD, tupleD, listD, catD, repD, slD, slDL, ixD, inSD, notInSD, startswithD, endswithD, findD, isdigitD, splitD, partitionD, joinD, lstripD, List.map_cons, List.map_nil, List.length_cons, List.length_nil, List.cons_append, List.nil_append, List.set_cons_zero, List.set_cons_succ, Nat.reduceAdd, Nat.reduceSub, List.replicate_succ, List.replicate_zero, List.tail_cons, Bool.false_eq_true, if_true, if_false, ite_true, ite_false, reduceIte, true_and, and_true, Bool.not_true, Bool.not_false, decide_eq_true_eq, Bool.not_eq_true', decide_eq_false_iff_not, ne_eq, reduceCtorEq, not_false_eq_true, DL.MulOk, at_0, at_1, at_2, Option.some.injEq, exists_eq_left, exists_eq_left', Int.reduceAdd, Int.reduceSub, Int.reduceMul, Int.reduceNeg, Int.reduceToNat, Int.reduceEq, Int.reduceLT, Int.reduceLE, Nat.reduceLeDiff, Nat.reduceLT, Nat.reduceEqDiff, sizeLine_eq, fD, mDiff] at h
    exact h
  · exact ⟨_, rfl, rfl⟩
def N_Weight___init__ : List Str := ["self", "form"]
def d_Weight___init__ : DTS :=
  (dFldSet 0 ["Weight"] "form" (dVar 1))
def FS_Weight___init__ : FS := { α := Form, args := fun a => [fD a], pre := fun _ => True, out := fun a => .ok (partI (.wei a)) }
theorem hm_Weight___init__ : ∀ a, FS_Weight___init__.pre a → d_Weight___init__ (DDin (FS_Weight___init__.out a)) (istart N_Weight___init__ "Weight" (FS_Weight___init__.args a)) := by
  intro f _
  unfold d_Weight___init__ FS_Weight___init__ N_Weight___init__
  dsimp only [dstart, istart, List.map_cons, List.map_nil, List.length_cons, List.length_nil, Nat.reduceAdd, Nat.reduceSub, List.replicate_succ, List.replicate_zero, List.cons_append, List.nil_append, List.tail_cons]
  apply toSeq
  refine s_fld (ev_vari rfl) rfl (by decide) (by decide) ?_
  exact ⟨_, rfl, rfl⟩
def N_Power___init__ : List Str := ["self", "fraction"]
def d_Power___init__ : DTS :=
  (dFldSet 0 ["Power"] "fraction" (dVar 1))
def FS_Power___init__ : FS := { α := Int × Int, args := fun a => [rD a], pre := fun _ => True, out := fun a => .ok (partI (.pow a)) }
theorem hm_Power___init__ : ∀ a, FS_Power___init__.pre a → d_Power___init__ (DDin (FS_Power___init__.out a)) (istart N_Power___init__ "Power" (FS_Power___init__.args a)) := by
  intro f _
  unfold d_Power___init__ FS_Power___init__ N_Power___init__
  dsimp only [dstart, istart, List.map_cons, List.map_nil, List.length_cons, List.length_nil, Nat.reduceAdd, Nat.reduceSub, List.replicate_succ, List.replicate_zero, List.cons_append, List.nil_append, List.tail_cons]
  apply toSeq
  refine s_fld (ev_vari rfl) rfl (by decide) (by decide) ?_
  exact ⟨_, rfl, rfl⟩
def N_Growth___init__ : List Str := ["self", "fraction"]
def d_Growth___init__ : DTS :=
  (dFldSet 0 ["Growth"] "fraction" (dVar 1))
def FS_Growth___init__ : FS := { α := Int × Int, args := fun a => [rD a], pre := fun _ => True, out := fun a => .ok (partI (.gro a)) }
theorem hm_Growth___init__ : ∀ a, FS_Growth___init__.pre a → d_Growth___init__ (DDin (FS_Growth___init__.out a)) (istart N_Growth___init__ "Growth" (FS_Growth___init__.args a)) := by
  intro f _
  unfold d_Growth___init__ FS_Growth___init__ N_Growth___init__
  dsimp only [dstart, istart, List.map_cons, List.map_nil, List.length_cons, List.length_nil, Nat.reduceAdd, Nat.reduceSub, List.replicate_succ, List.replicate_zero, List.cons_append, List.nil_append, List.tail_cons]
  apply toSeq
  refine s_fld (ev_vari rfl) rfl (by decide) (by decide) ?_
  exact ⟨_, rfl, rfl⟩
def N_made_part : List Str := ["part", "word"]
def d_made_part : DTS :=
  (dSeq (dSet 1 (dOp ixD (dBor 0) (dC (.int 0))))
  (dSeq (dIfS (dAndT (dTest (dOp eqD (dBor 1) (dC (.str "choose")))) (dTru (dCall FS_is_choose (dCons (dOp ixD (dBor 0) (dC (.int 1))) (dCons (dOp ixD (dBor 0) (dC (.int 2))) dNil))))) (dRet (dCall FS_Choose___init__ (dCons (dOp ixD (dBor 0) (dC (.int 1))) (dCons (dOp ixD (dBor 0) (dC (.int 2))) dNil)))) dNext)
  (dSeq (dIfS (dTest (dOp eqD (dBor 1) (dC (.str "weight")))) (dRet (dCall FS_Weight___init__ (dCons (dOp ixD (dBor 0) (dC (.int 1))) dNil))) dNext)
  (dSeq (dIfS (dAndT (dTest (dOp eqD (dBor 1) (dC (.str "power")))) (dTest (dOp neD (dOp ixD (dOp ixD (dBor 0) (dC (.int 1))) (dC (.int 0))) (dC (.int 0))))) (dRet (dCall FS_Power___init__ (dCons (dOp ixD (dBor 0) (dC (.int 1))) dNil))) dNext)
  (dSeq (dIfS (dAndT (dTest (dOp eqD (dBor 1) (dC (.str "growth")))) (dTest (dOp neD (dOp ixD (dOp ixD (dBor 0) (dC (.int 1))) (dC (.int 0))) (dC (.int 0))))) (dRet (dCall FS_Growth___init__ (dCons (dOp ixD (dBor 0) (dC (.int 1))) dNil))) dNext)
  (dRaise "NoTerm"))))))
def validP : Part → Bool
  | .cho u l => mIsChoose u l
  | .wei _ => true
  | .pow r => !decide (r.1 = 0)
  | .gro r => !decide (r.1 = 0)
def FS_made_part : FS := { α := Part, args := fun p => [pD p], pre := fun _ => True, out := fun p => if validP p = true then .ok (partI p) else .error "NoTerm" }
theorem ev_w {ρ : DEnv} {k : Nat} {w : Str} {z : Str} {b : Bool} (h : nth ρ k = .sh (.str w)) (e : decide (w = z) = b) : EvT (dTest (dOp eqD (dBor k) (dC (.str z)))) ρ b ρ := evt_test (ev_op (ev_bori h) ev_c fun P hP => by
  show P (.bl (decide (w = z)))
  rw [e]; exact hP)
theorem made_ok {p : Part} (h : validP p = true) : FS_made_part.out p = .ok (partI p) := by
  show (if validP p = true then _ else _) = _
  rw [if_pos h]
theorem made_err {p : Part} (h : validP p = false) : FS_made_part.out p = .error "NoTerm" := by
  show (if validP p = true then _ else _) = _
  rw [if_neg (by rw [h]; exact Bool.false_ne_true)]
theorem hm_made_part : ∀ a, FS_made_part.pre a → d_made_part (DDof false (FS_made_part.out a)) (dstart N_made_part (FS_made_part.args a)) := by
  intro p _
  unfold d_made_part FS_made_part N_made_part
  dsimp only [dstart, istart, List.map_cons, List.map_nil, List.length_cons, List.length_nil, Nat.reduceAdd, Nat.reduceSub, List.replicate_succ, List.replicate_zero, List.cons_append, List.nil_append, List.tail_cons]
  refine s_set (d := .str (wordP p)) (ev_word rfl) ?_
  cases p with
  | cho u l =>
    dsimp only [wordP]
    refine s_if (evt_and (ev_w (b := true) rfl (by decide)) fun _ => evt_tru (ev_call (S := FS_is_choose) (u, l) (fun Q E h => ?_) trivial rfl)) ?_
    · simp only [dSeq, dNext, dSet, dOwn, dRet, dRetN, dIfS, dDrop, dAsg, dPar, dAug, dSetIx, dApp, dClear, dRaise, dTest, dTru, truD, dAndT, dOrT, dNotT, dIf, dAndV, dOrV, dNotV, dOp, dUn, dCB, dBM, dNilA, dVar, dBor, dGive, dC, dCons, dNil, dTup, dLst, dSl, dPart, dNoPart, dIsi, nth, dstart, istart, dFld, dFldSet, putD, dgName, dgTup, dgCons, dgNil, dItL, dItT, dItS, dItR1, dItR2, dItE, dItZ, dYes, dMeth, dOr, Ends2, addD, iaddD, imulD, subD, mulD, fdivD, modD, powD, cmpD, eqD, neD, isD, isNotD, negD, absD, lenD, max2D, min2D, DL.intD, strD, tupleD, listD, catD, repD, slD, slDL, ixD, inSD, notInSD, startswithD, endswithD, findD, isdigitD, splitD, partitionD, joinD, lstripD, List.map_cons, List.map_nil, List.length_cons, List.length_nil, List.cons_append, List.nil_append, List.set_cons_zero, List.set_cons_succ, Nat.reduceAdd, Nat.reduceSub, List.replicate_succ, List.replicate_zero, List.tail_cons, Bool.false_eq_true, if_true, if_false, ite_true, ite_false, reduceIte, true_and, and_true, Bool.not_true, Bool.not_false, decide_eq_true_eq, Bool.not_eq_true', decide_eq_false_iff_not, ne_eq, reduceCtorEq, not_false_eq_true, DL.MulOk, at_0, at_1, at_2, Option.some.injEq, exists_eq_left, exists_eq_left', Int.reduceAdd, Int.reduceSub, Int.reduceMul, Int.reduceNeg, Int.reduceToNat, Int.reduceEq, Int.reduceLT, Int.reduceLE, Nat.reduceLeDiff, Nat.reduceLT, Nat.reduceEqDiff, sizeLine_eq, pD]
      exact h
    · show if (true && mIsChoose u l) = true then _ else _
      cases e : mIsChoose u l with
      | true =>
        rw [Bool.and_self, if_pos rfl]
        apply s_ret
        · refine ev_call (S := FS_Choose___init__) (u, l) (fun Q E h => ?_) trivial rfl
          simp only [dSeq, dNext, dSet, dOwn, dRet, dRetN, dIfS, dDrop, dAsg, dPar, dAug, dSetIx, dApp, dClear, dRaise, dTest, dTru, truD, dAndT, dOrT, dNotT, dIf, dAndV, dOrV, dNotV, dOp, dUn, dCB, dBM, dNilA, dVar, dBor, dGive, dC, dCons, dNil, dTup, dLst, dSl, dPart, dNoPart, dIsi, nth, dstart, istart, dFld, dFldSet, putD, dgName, dgTup, dgCons, dgNil, dItL, dItT, dItS, dItR1, dItR2, dItE, dItZ, dYes, dMeth, dOr, Ends2, addD, iaddD, imulD, subD, mulD, fdivD, modD, powD, cmpD, eqD, neD, isD, isNotD, negD, absD, lenD, max2D, min2D, DL.intD, strD, tupleD, listD, catD, repD, slD, slDL, ixD, inSD, notInSD, startswithD, endswithD, findD, isdigitD, splitD, partitionD, joinD, lstripD, List.map_cons, List.map_nil, List.length_cons, List.length_nil, List.cons_append, List.nil_append, List.set_cons_zero, List.set_cons_succ, Nat.reduceAdd, Nat.reduceSub, List.replicate_succ, List.replicate_zero, List.tail_cons, Bool.false_eq_true, if_true, if_false, ite_true, ite_false, reduceIte, true_and, and_true, Bool.not_true, Bool.not_false, decide_eq_true_eq, Bool.not_eq_true', decide_eq_false_iff_not, ne_eq, reduceCtorEq, not_false_eq_true, DL.MulOk, at_0, at_1, at_2, Option.some.injEq, exists_eq_left, exists_eq_left', Int.reduceAdd, Int.reduceSub, Int.reduceMul, Int.reduceNeg, Int.reduceToNat, Int.reduceEq, Int.reduceLT, Int.reduceLE, Nat.reduceLeDiff, Nat.reduceLT, Nat.reduceEqDiff, sizeLine_eq, pD]
          exact h
        · exact made_ok e
      | false =>
        rw [Bool.and_false, if_neg Bool.false_ne_true]
        apply s_next
        refine s_ifF (ev_w rfl (by decide)) ?_
        apply s_next
        refine s_ifF (evt_and (b := false) (b2 := false) (ev_w rfl (by decide)) (fun z => nomatch z)) ?_
        apply s_next
        refine s_ifF (evt_and (b := false) (b2 := false) (ev_w rfl (by decide)) (fun z => nomatch z)) ?_
        apply s_next
        exact made_err e
  | wei f =>
    dsimp only [wordP]
    refine s_ifF (evt_and (b := false) (b2 := false) (ev_w rfl (by decide)) (fun z => nomatch z)) ?_
    apply s_next
    refine s_ifT (ev_w rfl (by decide)) ?_
    apply s_ret
    · refine ev_call (S := FS_Weight___init__) f (fun Q E h => ?_) trivial rfl
      simp only [dSeq, dNext, dSet, dOwn, dRet, dRetN, dIfS, dDrop, dAsg, dPar, dAug, dSetIx, dApp, dClear, dRaise, dTest, dTru, truD, dAndT, dOrT, dNotT, dIf, dAndV, dOrV, dNotV, dOp, dUn, dCB, dBM, dNilA, dVar, dBor, dGive, dC, dCons, dNil, dTup, dLst, dSl, dPart, dNoPart, dIsi, nth, dstart, istart, dFld, dFldSet, putD, dgName, dgTup, dgCons, dgNil, dItL, dItT, dItS, dItR1, dItR2, dItE, dItZ, dYes, dMeth, dOr, Ends2, addD, iaddD, imulD, subD, mulD, fdivD, modD, powD, cmpD, eqD, neD, isD, isNotD, negD, absD, lenD, max2D, min2D, DL.intD, strD, tupleD, listD, catD, repD, slD, slDL, ixD, inSD, notInSD, startswithD, endswithD, findD, isdigitD, splitD, partitionD, joinD, lstripD, List.map_cons, List.map_nil, List.length_cons, List.length_nil, List.cons_append, List.nil_append, List.set_cons_zero, List.set_cons_succ, Nat.reduceAdd, Nat.reduceSub, List.replicate_succ, List.replicate_zero, List.tail_cons, Bool.false_eq_true, if_true, if_false, ite_true, ite_false, reduceIte, true_and, and_true, Bool.not_true, Bool.not_false, decide_eq_true_eq, Bool.not_eq_true', decide_eq_false_iff_not, ne_eq, reduceCtorEq, not_false_eq_true, DL.MulOk, at_0, at_1, at_2, Option.some.injEq, exists_eq_left, exists_eq_left', Int.reduceAdd, Int.reduceSub, Int.reduceMul, Int.reduceNeg, Int.reduceToNat, Int.reduceEq, Int.reduceLT, Int.reduceLE, Nat.reduceLeDiff, Nat.reduceLT, Nat.reduceEqDiff, sizeLine_eq, pD]
      exact h
    · rfl
  | pow r =>
    dsimp only [wordP]
    refine s_ifF (evt_and (b := false) (b2 := false) (ev_w rfl (by decide)) (fun z => nomatch z)) ?_
    apply s_next
    refine s_ifF (ev_w rfl (by decide)) ?_
    apply s_next
    refine s_if (evt_and (b := true) (b2 := !decide (r.1 = 0)) (ev_w rfl (by decide)) (fun _ Q E h => ?_)) ?_
    · simp only [dSeq, dNext, dSet, dOwn, dRet, dRetN, dIfS, dDrop, dAsg, dPar, dAug, dSetIx, dApp, dClear, dRaise, dTest, dTru, truD, dAndT, dOrT, dNotT, dIf, dAndV, dOrV, dNotV, dOp, dUn, dCB, dBM, dNilA, dVar, dBor, dGive, dC, dCons, dNil, dTup, dLst, dSl, dPart, dNoPart, dIsi, nth, dstart, istart, dFld, dFldSet, putD, dgName, dgTup, dgCons, dgNil, dItL, dItT, dItS, dItR1, dItR2, dItE, dItZ, dYes, dMeth, dOr, Ends2, addD, iaddD, imulD, subD, mulD, fdivD, modD, powD, cmpD, eqD, neD, isD, isNotD, negD, absD, lenD, max2D, min2D, DL.intD, strD, tupleD, listD, catD, repD, slD, slDL, ixD, inSD, notInSD, startswithD, endswithD, findD, isdigitD, splitD, partitionD, joinD, lstripD, List.map_cons, List.map_nil, List.length_cons, List.length_nil, List.cons_append, List.nil_append, List.set_cons_zero, List.set_cons_succ, Nat.reduceAdd, Nat.reduceSub, List.replicate_succ, List.replicate_zero, List.tail_cons, Bool.false_eq_true, if_true, if_false, ite_true, ite_false, reduceIte, true_and, and_true, Bool.not_true, Bool.not_false, decide_eq_true_eq, Bool.not_eq_true', decide_eq_false_iff_not, ne_eq, reduceCtorEq, not_false_eq_true, DL.MulOk, at_0, at_1, at_2, Option.some.injEq, exists_eq_left, exists_eq_left', Int.reduceAdd, Int.reduceSub, Int.reduceMul, Int.reduceNeg, Int.reduceToNat, Int.reduceEq, Int.reduceLT, Int.reduceLE, Nat.reduceLeDiff, Nat.reduceLT, Nat.reduceEqDiff, sizeLine_eq, pD, rD] at h ⊢
      exact h
    · cases e : (!decide (r.1 = 0)) with
      | true =>
        rw [Bool.and_self, if_pos rfl]
        apply s_ret
        · refine ev_call (S := FS_Power___init__) r (fun Q E h => ?_) trivial rfl
          simp only [dSeq, dNext, dSet, dOwn, dRet, dRetN, dIfS, dDrop, dAsg, dPar, dAug, dSetIx, dApp, dClear, dRaise, dTest, dTru, truD, dAndT, dOrT, dNotT, dIf, dAndV, dOrV, dNotV, dOp, dUn, dCB, dBM, dNilA, dVar, dBor, dGive, dC, dCons, dNil, dTup, dLst, dSl, dPart, dNoPart, dIsi, nth, dstart, istart, dFld, dFldSet, putD, dgName, dgTup, dgCons, dgNil, dItL, dItT, dItS, dItR1, dItR2, dItE, dItZ, dYes, dMeth, dOr, Ends2, addD, iaddD, imulD, subD, mulD, fdivD, modD, powD, cmpD, eqD, neD, isD, isNotD, negD, absD, lenD, max2D, min2D, DL.intD, strD, tupleD, listD, catD, repD, slD, slDL, ixD, inSD, notInSD, startswithD, endswithD, findD, isdigitD, splitD, partitionD, joinD, lstripD, List.map_cons, List.map_nil, List.length_cons, List.length_nil, List.cons_append, List.nil_append, List.set_cons_zero, List.set_cons_succ, Nat.reduceAdd, Nat.reduceSub, List.replicate_succ, List.replicate_zero, List.tail_cons, Bool.false_eq_true, if_true, if_false, ite_true, ite_false, reduceIte, true_and, and_true, Bool.not_true, Bool.not_false, decide_eq_true_eq, Bool.not_eq_true', decide_eq_false_iff_not, ne_eq, reduceCtorEq, not_false_eq_true, DL.MulOk, at_0, at_1, at_2, Option.some.injEq, exists_eq_left, exists_eq_left', Int.reduceAdd, Int.reduceSub, Int.reduceMul, Int.reduceNeg, Int.reduceToNat, Int.reduceEq, Int.reduceLT, Int.reduceLE, Nat.reduceLeDiff, Nat.reduceLT, Nat.reduceEqDiff, sizeLine_eq, pD]
          exact h
        · exact made_ok e
      | false =>
        rw [Bool.and_false, if_neg Bool.false_ne_true]
        apply s_next
        refine s_ifF (evt_and (b := false) (b2 := false) (ev_w rfl (by decide)) (fun z => nomatch z)) ?_
        apply s_next
        exact made_err e
  | gro r =>
    dsimp only [wordP]
    refine s_ifF (evt_and (b := false) (b2 := false) (ev_w rfl (by decide)) (fun z => nomatch z)) ?_
    apply s_next
    refine s_ifF (ev_w rfl (by decide)) ?_
    apply s_next
    refine s_ifF (evt_and (b := false) (b2 := false) (ev_w rfl (by decide)) (fun z => nomatch z)) ?_
    apply s_next
    refine s_if (evt_and (b := true) (b2 := !decide (r.1 = 0)) (ev_w rfl (by decide)) (fun _ Q E h => ?_)) ?_
    · simp only [dSeq, dNext, dSet, dOwn, dRet, dRetN, dIfS, dDrop, dAsg, dPar, dAug, dSetIx, dApp, dClear, dRaise, dTest, dTru, truD, dAndT, dOrT, dNotT, dIf, dAndV, dOrV, dNotV, dOp, dUn, dCB, dBM, dNilA, dVar, dBor, dGive, dC, dCons, dNil, dTup, dLst, dSl, dPart, dNoPart, dIsi, nth, dstart, istart, dFld, dFldSet, putD, dgName, dgTup, dgCons, dgNil, dItL, dItT, dItS, dItR1, dItR2, dItE, dItZ, dYes, dMeth, dOr, Ends2, addD, iaddD, imulD, subD, mulD, fdivD, modD, powD, cmpD, eqD, neD, isD, isNotD, negD, absD, lenD, max2D, min2D, DL.intD, strD, tupleD, listD, catD, repD, slD, slDL, ixD, inSD, notInSD, startswithD, endswithD, findD, isdigitD, splitD, partitionD, joinD, lstripD, List.map_cons, List.map_nil, List.length_cons, List.length_nil, List.cons_append, List.nil_append, List.set_cons_zero, List.set_cons_succ, Nat.reduceAdd, Nat.reduceSub, List.replicate_succ, List.replicate_zero, List.tail_cons, Bool.false_eq_true, if_true, if_false, ite_true, ite_false, reduceIte, true_and, and_true, Bool.not_true, Bool.not_false, decide_eq_true_eq, Bool.not_eq_true', decide_eq_false_iff_not, ne_eq, reduceCtorEq, not_false_eq_true, DL.MulOk, at_0, at_1, at_2, Option.some.injEq, exists_eq_left, exists_eq_left', Int.reduceAdd, Int.reduceSub, Int.reduceMul, Int.reduceNeg, Int.reduceToNat, Int.reduceEq, Int.reduceLT, Int.reduceLE, Nat.reduceLeDiff, Nat.reduceLT, Nat.reduceEqDiff, sizeLine_eq, pD, rD] at h ⊢
      exact h
    · cases e : (!decide (r.1 = 0)) with
      | true =>
        rw [Bool.and_self, if_pos rfl]
        apply s_ret
        · refine ev_call (S := FS_Growth___init__) r (fun Q E h => ?_) trivial rfl
          simp only [dSeq, dNext, dSet, dOwn, dRet, dRetN, dIfS, dDrop, dAsg, dPar, dAug, dSetIx, dApp, dClear, dRaise, dTest, dTru, truD, dAndT, dOrT, dNotT, dIf, dAndV, dOrV, dNotV, dOp, dUn, dCB, dBM, dNilA, dVar, dBor, dGive, dC, dCons, dNil, dTup, dLst, dSl, dPart, dNoPart, dIsi, nth, dstart, istart, dFld, dFldSet, putD, dgName, dgTup, dgCons, dgNil, dItL, dItT, dItS, dItR1, dItR2, dItE, dItZ, dYes, dMeth, dOr, Ends2, addD, iaddD, imulD, subD, mulD, fdivD, modD, powD, cmpD, eqD, neD, isD, isNotD, negD, absD, lenD, max2D, min2D, DL.intD, strD, tupleD, listD, catD, repD, slD, slDL, ixD, inSD, notInSD, startswithD, endswithD, findD, isdigitD, splitD, partitionD, joinD, lstripD, List.map_cons, List.map_nil, List.length_cons, List.length_nil, List.cons_append, List.nil_append, List.set_cons_zero, List.set_cons_succ, Nat.reduceAdd, Nat.reduceSub, List.replicate_succ, List.replicate_zero, List.tail_cons, Bool.false_eq_true, if_true, if_false, ite_true, ite_false, reduceIte, true_and, and_true, Bool.not_true, Bool.not_false, decide_eq_true_eq, Bool.not_eq_true', decide_eq_false_iff_not, ne_eq, reduceCtorEq, not_false_eq_true, DL.MulOk, at_0, at_1, at_2, Option.some.injEq, exists_eq_left, exists_eq_left', Int.reduceAdd, Int.reduceSub, Int.reduceMul, Int.reduceNeg, Int.reduceToNat, Int.reduceEq, Int.reduceLT, Int.reduceLE, Nat.reduceLeDiff, Nat.reduceLT, Nat.reduceEqDiff, sizeLine_eq, pD]
          exact h
        · exact made_ok e
      | false =>
        rw [Bool.and_false, if_neg Bool.false_ne_true]
        apply s_next
        exact made_err e
def N_Term___init__ : List Str := ["self", "parts", "part"]
def d_Term___init__ : DTS :=
  (dSeq (dIfS (dOrT (dTest (dOp eqD (dBor 1) (dLst dNil))) (dTest (dOp gtD (dCB lenD (dCons (dBor 1) dNil)) (dC (.int 6))))) (dRaise "NoTerm") dNext)
  (dSeq (dFldSet 0 ["Term"] "made" (dLc (dItL (dVar 1)) (dgName 2) dYes (dCall FS_made_part (dCons (dVar 2) dNil)) [2]))
  (dFldSet 0 ["Term"] "words" (dCB listD (dCons (dBor 1) dNil)))))
def termOut (ps : List Part) : Except Str D := if ps = [] ∨ 6 < ps.length ∨ ps.all validP = false then .error "NoTerm" else .ok (termI ps)
def FS_Term___init__ : FS := { α := List Part, args := fun ps => [.lst (ps.map pD)], pre := fun ps => ps.length < 2 ^ 20 ∧ (ps = [] ∨ 6 < ps.length ∨ ps.all validP = true), out := termOut }
theorem okN_f {n : Nat} {f : Form} : okN (n + 1) (fD f) := okN_tup fun d m => by
  simp only [List.mem_cons, List.not_mem_nil, or_false] at m
  rcases m with rfl | rfl | rfl <;> exact okN_int
theorem okN_r {n : Nat} {r : Int × Int} : okN (n + 1) (rD r) := okN_tup fun d m => by
  simp only [List.mem_cons, List.not_mem_nil, or_false] at m
  rcases m with rfl | rfl <;> exact okN_int
theorem okN_2 {n : Nat} {w : Str} {d : D} (hw : PyData.strOk w = true) (h : okN n d) : okN (n + 1) (.tup [.str w, d]) := okN_tup (by
  intro e m
  simp only [List.mem_cons, List.not_mem_nil, or_false] at m
  rcases m with rfl | rfl
  · exact okN_str hw
  · exact h)
theorem okN_3 {n : Nat} {w : Str} {d d2 : D} (hw : PyData.strOk w = true) (h : okN n d) (h2 : okN n d2) : okN (n + 1) (.tup [.str w, d, d2]) := okN_tup (by
  intro e m
  simp only [List.mem_cons, List.not_mem_nil, or_false] at m
  rcases m with rfl | rfl | rfl
  · exact okN_str hw
  · exact h
  · exact h2)
theorem okN_p {n : Nat} {p : Part} : okN (n + 2) (pD p) := by
  cases p with
  | cho u l => exact okN_3 (by decide +kernel) okN_f okN_f
  | wei f => exact okN_2 (by decide +kernel) okN_f
  | pow r => exact okN_2 (by decide +kernel) okN_r
  | gro r => exact okN_2 (by decide +kernel) okN_r
theorem okN_ps {ps : List Part} : okN 3 (.lst (ps.map pD)) := okN_lst fun d m => by
  obtain ⟨p, _, rfl⟩ := List.mem_map.mp m
  exact okN_p
theorem hm_Term___init__ : ∀ a, FS_Term___init__.pre a → d_Term___init__ (DDin (FS_Term___init__.out a)) (istart N_Term___init__ "Term" (FS_Term___init__.args a)) := by
  intro (ps : List Part) hh
  obtain ⟨hl, hp⟩ := hh
  unfold d_Term___init__ FS_Term___init__ N_Term___init__
  dsimp only [dstart, istart, List.map_cons, List.map_nil, List.length_cons, List.length_nil, Nat.reduceAdd, Nat.reduceSub, List.replicate_succ, List.replicate_zero, List.cons_append, List.nil_append, List.tail_cons]
  refine s_if (evt_or (b := ps.isEmpty) (evt_test (ev_op (ev_bori rfl) (ev_lst eva_nil (Nat.zero_le _)) fun P h => ?_)) fun _ => (fun Q E h => ?_ : EvT _ _ (decide (6 < ps.length)) _)) ?_
  · refine eq_lst okN_ps.ok (okN.ok (n := 3) (okN_lst fun d m => nomatch m)) (eqv_nil.trans (by cases ps <;> rfl)) h
  · simp only [dSeq, dNext, dSet, dOwn, dRet, dRetN, dIfS, dDrop, dAsg, dPar, dAug, dSetIx, dApp, dClear, dRaise, dTest, dTru, truD, dAndT, dOrT, dNotT, dIf, dAndV, dOrV, dNotV, dOp, dUn, dCB, dBM, dNilA, dVar, dBor, dGive, dC, dCons, dNil, dTup, dLst, dSl, dPart, dNoPart, dIsi, nth, dstart, istart, dFld, dFldSet, putD, dgName, dgTup, dgCons, dgNil, dItL, dItT, dItS, dItR1, dItR2, dItE, dItZ, dYes, dMeth, dOr, Ends2, addD, iaddD, imulD, subD, mulD, fdivD, modD, powD, cmpD, eqD, neD, isD, isNotD, negD, absD, lenD, max2D, min2D, DL.intD, strD, tupleD, listD, catD, repD, slD, slDL, ixD, inSD, notInSD, startswithD, endswithD, findD, isdigitD, splitD, partitionD, joinD, lstripD, List.map_cons, List.map_nil, List.length_cons, List.length_nil, List.cons_append, List.nil_append, List.set_cons_zero, List.set_cons_succ, Nat.reduceAdd, Nat.reduceSub, List.replicate_succ, List.replicate_zero, List.tail_cons, Bool.false_eq_true, if_true, if_false, ite_true, ite_false, reduceIte, true_and, and_true, Bool.not_true, Bool.not_false, decide_eq_true_eq, Bool.not_eq_true', decide_eq_false_iff_not, ne_eq, reduceCtorEq, not_false_eq_true, DL.MulOk, at_0, at_1, at_2, Option.some.injEq, exists_eq_left, exists_eq_left', Int.reduceAdd, Int.reduceSub, Int.reduceMul, Int.reduceNeg, Int.reduceToNat, Int.reduceEq, Int.reduceLT, Int.reduceLE, Nat.reduceLeDiff, Nat.reduceLT, Nat.reduceEqDiff, sizeLine_eq, List.length_map]
    have e : decide ((6 : Int) < (ps.length : Int)) = decide (6 < ps.length) := by
      apply decide_eq_decide.mpr
      omega
    rw [e]
    exact h
  by_cases c : ps = [] ∨ 6 < ps.length
  · have e : (ps.isEmpty || decide (6 < ps.length)) = true := by simpa using c
    rw [e, if_pos rfl]
    apply s_raise
    show termOut ps = .error "NoTerm"
    unfold termOut
    rw [if_pos (by rcases c with c | c; exact .inl c; exact .inr (.inl c))]
  · have e : (ps.isEmpty || decide (6 < ps.length)) = false := by simpa [not_or] using c
    rw [e, if_neg Bool.false_ne_true]
    have hv : ps.all validP = true := by
      rcases hp with h | h | h
      · exact absurd (.inl h) c
      · exact absurd (.inr h) c
      · exact h
    apply s_next
    have hlen : (ps.map pD).length ≤ sizeLine := by rw [List.length_map, sizeLine_eq]; omega
    have c2 : ¬ (ps = [] ∨ 6 < ps.length ∨ ps.all validP = false) := by
      rintro (h | h | h)
      · exact c (.inl h)
      · exact c (.inr h)
      · rw [hv] at h; cases h
    refine s_fld (C := "Term") (fs := []) (d := .lst (ps.map partI)) ?_ rfl (by decide) (by decide) ?_
    · have h1 : ∀ p ∈ ps, validP p = true := List.all_eq_true.mp hv
      refine ev_lczM ps pD partI (fun Q E h => ?_) (by rw [sizeLine_eq]; omega) fun p hp Q' k => ?_
      · simp only [dSeq, dNext, dSet, dOwn, dRet, dRetN, dIfS, dDrop, dAsg, dPar, dAug, dSetIx, dApp, dClear, dRaise, dTest, dTru, truD, dAndT, dOrT, dNotT, dIf, dAndV, dOrV, dNotV, dOp, dUn, dCB, dBM, dNilA, dVar, dBor, dGive, dC, dCons, dNil, dTup, dLst, dSl, dPart, dNoPart, dIsi, nth, dstart, istart, dFld, dFldSet, putD, dgName, dgTup, dgCons, dgNil, dItL, dItT, dItS, dItR1, dItR2, dItE, dItZ, dYes, dMeth, dOr, Ends2, addD, iaddD, imulD, subD, mulD, fdivD, modD, powD, cmpD, eqD, neD, isD, isNotD, negD, absD, lenD, max2D, min2D, DL.intD, strD, tupleD, listD, catD, repD, slD, slDL, ixD, inSD, notInSD, startswithD, endswithD, findD, isdigitD, splitD, partitionD, joinD, lstripD, List.map_cons, List.map_nil, List.length_cons, List.length_nil, List.cons_append, List.nil_append, List.set_cons_zero, List.set_cons_succ, Nat.reduceAdd, Nat.reduceSub, List.replicate_succ, List.replicate_zero, List.tail_cons, Bool.false_eq_true, if_true, if_false, ite_true, ite_false, reduceIte, true_and, and_true, Bool.not_true, Bool.not_false, decide_eq_true_eq, Bool.not_eq_true', decide_eq_false_iff_not, ne_eq, reduceCtorEq, not_false_eq_true, DL.MulOk, at_0, at_1, at_2, Option.some.injEq, exists_eq_left, exists_eq_left', Int.reduceAdd, Int.reduceSub, Int.reduceMul, Int.reduceNeg, Int.reduceToNat, Int.reduceEq, Int.reduceLT, Int.reduceLE, Nat.reduceLeDiff, Nat.reduceLT, Nat.reduceEqDiff, sizeLine_eq]
        exact h
      · refine (ev_call (S := FS_made_part) (d := partI p) p (fun Q E h => ?_) trivial (made_ok (h1 p hp))) _ _ (k _ rfl)
        simp only [dSeq, dNext, dSet, dOwn, dRet, dRetN, dIfS, dDrop, dAsg, dPar, dAug, dSetIx, dApp, dClear, dRaise, dTest, dTru, truD, dAndT, dOrT, dNotT, dIf, dAndV, dOrV, dNotV, dOp, dUn, dCB, dBM, dNilA, dVar, dBor, dGive, dC, dCons, dNil, dTup, dLst, dSl, dPart, dNoPart, dIsi, nth, dstart, istart, dFld, dFldSet, putD, dgName, dgTup, dgCons, dgNil, dItL, dItT, dItS, dItR1, dItR2, dItE, dItZ, dYes, dMeth, dOr, Ends2, addD, iaddD, imulD, subD, mulD, fdivD, modD, powD, cmpD, eqD, neD, isD, isNotD, negD, absD, lenD, max2D, min2D, DL.intD, strD, tupleD, listD, catD, repD, slD, slDL, ixD, inSD, notInSD, startswithD, endswithD, findD, isdigitD, splitD, partitionD, joinD, lstripD, List.map_cons, List.map_nil, List.length_cons, List.length_nil, List.cons_append, List.nil_append, List.set_cons_zero, List.set_cons_succ, Nat.reduceAdd, Nat.reduceSub, List.replicate_succ, List.replicate_zero, List.tail_cons, Bool.false_eq_true, if_true, if_false, ite_true, ite_false, reduceIte, true_and, and_true, Bool.not_true, Bool.not_false, decide_eq_true_eq, Bool.not_eq_true', decide_eq_false_iff_not, ne_eq, reduceCtorEq, not_false_eq_true, DL.MulOk, at_0, at_1, at_2, Option.some.injEq, exists_eq_left, exists_eq_left', Int.reduceAdd, Int.reduceSub, Int.reduceMul, Int.reduceNeg, Int.reduceToNat, Int.reduceEq, Int.reduceLT, Int.reduceLE, Nat.reduceLeDiff, Nat.reduceLT, Nat.reduceEqDiff, sizeLine_eq, wipeD]
        exact h
    · apply toSeq
      refine s_fld (d := .lst (ps.map pD)) ?_ rfl (by decide) (show (1 : Nat) < 1000 by decide) ?_
      · intro Q E h
        simp only [dSeq, dNext, dSet, dOwn, dRet, dRetN, dIfS, dDrop, dAsg, dPar, dAug, dSetIx, dApp, dClear, dRaise, dTest, dTru, truD, dAndT, dOrT, dNotT, dIf, dAndV, dOrV, dNotV, dOp, dUn, dCB, dBM, dNilA, dVar, dBor, dGive, dC, dCons, dNil, dTup, dLst, dSl, dPart, dNoPart, dIsi, nth, dstart, istart, dFld, dFldSet, putD, dgName, dgTup, dgCons, dgNil, dItL, dItT, dItS, dItR1, dItR2, dItE, dItZ, dYes, dMeth, dOr, Ends2, addD, iaddD, imulD, subD, mulD, fdivD, modD, powD, cmpD, eqD, neD, isD, isNotD, negD, absD, lenD, max2D, min2D, DL.intD, strD, tupleD, listD, catD, repD, slD, slDL, ixD, inSD, notInSD, startswithD, endswithD, findD, isdigitD, splitD, partitionD, joinD, lstripD, List.map_cons, List.map_nil, List.length_cons, List.length_nil, List.cons_append, List.nil_append, List.set_cons_zero, List.set_cons_succ, Nat.reduceAdd, Nat.reduceSub, List.replicate_succ, List.replicate_zero, List.tail_cons, Bool.false_eq_true, if_true, if_false, ite_true, ite_false, reduceIte, true_and, and_true, Bool.not_true, Bool.not_false, decide_eq_true_eq, Bool.not_eq_true', decide_eq_false_iff_not, ne_eq, reduceCtorEq, not_false_eq_true, DL.MulOk, at_0, at_1, at_2, Option.some.injEq, exists_eq_left, exists_eq_left', Int.reduceAdd, Int.reduceSub, Int.reduceMul, Int.reduceNeg, Int.reduceToNat, Int.reduceEq, Int.reduceLT, Int.reduceLE, Nat.reduceLeDiff, Nat.reduceLT, Nat.reduceEqDiff, sizeLine_eq]
        exact h
      · refine ⟨_, rfl, ?_⟩
        show termOut ps = .ok (termI ps)
        unfold termOut
        rw [if_neg c2]
def N_Term_told : List Str := ["self"]
def d_Term_told : DTS :=
  (dRet (dCB listD (dCons (dFld ["Term"] "words" (dBor 0)) dNil)))
def FS_Term_told : FS := { α := List Part, args := fun ps => [termI ps], pre := fun _ => True, out := fun ps => .ok (.lst (ps.map pD)) }
theorem hm_Term_told : ∀ a, FS_Term_told.pre a → d_Term_told (DDof true (FS_Term_told.out a)) (dstart N_Term_told (FS_Term_told.args a)) := by
  intro (ps : List Part) _
  unfold d_Term_told FS_Term_told N_Term_told
  dsimp only [dstart, istart, List.map_cons, List.map_nil, List.length_cons, List.length_nil, Nat.reduceAdd, Nat.reduceSub, List.replicate_succ, List.replicate_zero, List.cons_append, List.nil_append, List.tail_cons]
  apply e_ret
  · intro Q E h
    unfold termI at h ⊢
    simp only [dSeq, dNext, dSet, dOwn, dRet, dRetN, dIfS, dDrop, dAsg, dPar, dAug, dSetIx, dApp, dClear, dRaise, dTest, dTru, truD, dAndT, dOrT, dNotT, dIf, dAndV, dOrV, dNotV, dOp, dUn, dCB, dBM, dNilA, dVar, dBor, dGive, dC, dCons, dNil, dTup, dLst, dSl, dPart, dNoPart, dIsi, nth, dstart, istart, dFld, dFldSet, putD, dgName, dgTup, dgCons, dgNil, dItL, dItT, dItS, dItR1, dItR2, dItE, dItZ, dYes, dMeth, dOr, Ends2, addD, iaddD, imulD, subD, mulD, fdivD, modD, powD, cmpD, eqD, neD, isD, isNotD, negD, absD, lenD, max2D, min2D, DL.intD, strD, tupleD, listD, catD, repD, slD, slDL, ixD, inSD, notInSD, startswithD, endswithD, findD, isdigitD, splitD, partitionD, joinD, lstripD, List.map_cons, List.map_nil, List.length_cons, List.length_nil, List.cons_append, List.nil_append, List.set_cons_zero, List.set_cons_succ, Nat.reduceAdd, Nat.reduceSub, List.replicate_succ, List.replicate_zero, List.tail_cons, Bool.false_eq_true, if_true, if_false, ite_true, ite_false, reduceIte, true_and, and_true, Bool.not_true, Bool.not_false, decide_eq_true_eq, Bool.not_eq_true', decide_eq_false_iff_not, ne_eq, reduceCtorEq, not_false_eq_true, DL.MulOk, at_0, at_1, at_2, Option.some.injEq, exists_eq_left, exists_eq_left', Int.reduceAdd, Int.reduceSub, Int.reduceMul, Int.reduceNeg, Int.reduceToNat, Int.reduceEq, Int.reduceLT, Int.reduceLE, Nat.reduceLeDiff, Nat.reduceLT, Nat.reduceEqDiff, sizeLine_eq]
    refine ⟨by decide, _, rfl, ?_⟩
    simp only [dSeq, dNext, dSet, dOwn, dRet, dRetN, dIfS, dDrop, dAsg, dPar, dAug, dSetIx, dApp, dClear, dRaise, dTest, dTru, truD, dAndT, dOrT, dNotT, dIf, dAndV, dOrV, dNotV, dOp, dUn, dCB, dBM, dNilA, dVar, dBor, dGive, dC, dCons, dNil, dTup, dLst, dSl, dPart, dNoPart, dIsi, nth, dstart, istart, dFld, dFldSet, putD, dgName, dgTup, dgCons, dgNil, dItL, dItT, dItS, dItR1, dItR2, dItE, dItZ, dYes, dMeth, dOr, Ends2, addD, iaddD, imulD, subD, mulD, fdivD, modD, powD, cmpD, eqD, neD, isD, isNotD, negD, absD, lenD, max2D, min2D, DL.intD, strD, tupleD, listD, catD, repD, slD, slDL, ixD, inSD, notInSD, startswithD, endswithD, findD, isdigitD, splitD, partitionD, joinD, lstripD, List.map_cons, List.map_nil, List.length_cons, List.length_nil, List.cons_append, List.nil_append, List.set_cons_zero, List.set_cons_succ, Nat.reduceAdd, Nat.reduceSub, List.replicate_succ, List.replicate_zero, List.tail_cons, Bool.false_eq_true, if_true, if_false, ite_true, ite_false, reduceIte, true_and, and_true, Bool.not_true, Bool.not_false, decide_eq_true_eq, Bool.not_eq_true', decide_eq_false_iff_not, ne_eq, reduceCtorEq, not_false_eq_true, DL.MulOk, at_0, at_1, at_2, Option.some.injEq, exists_eq_left, exists_eq_left', Int.reduceAdd, Int.reduceSub, Int.reduceMul, Int.reduceNeg, Int.reduceToNat, Int.reduceEq, Int.reduceLT, Int.reduceLE, Nat.reduceLeDiff, Nat.reduceLT, Nat.reduceEqDiff, sizeLine_eq]
    exact h
  · rfl
end T57

end

section
namespace T57
open PySem PySem.Spec PyProof.Rows L2 DL
abbrev S (l : List Nat) : Str := SX.S l
/-! texts as lists of signs -/
def intL (i : Int) : List Nat := if i < 0 then 45 :: TL.numL i.natAbs else TL.numL i.natAbs
theorem SX_app (a b : String) : Str.ofString (a ++ b) = Str.ofString a ++ Str.ofString b := by
  apply TL.ext_tl
  rw [TL.tl_append]
  simp only [Str.ofString_eq_toList]
  unfold TL.tl
  simp
theorem str_int (i : Int) : Str.ofString (toString i) = S (intL i) := by
  unfold intL
  by_cases h : i < 0
  · rw [if_pos h, PyProof.Rows.toString_neg h]
    have e : (0 - i) = ((i.natAbs : Nat) : Int) := by omega
    rw [e]
    have e2 : Str.ofString ("-" ++ toString ((i.natAbs : Nat) : Int)) = Str.ofString "-" ++ Str.ofString (toString ((i.natAbs : Nat) : Int)) := by
      exact SX_app _ _
    rw [e2, SX.num_S]
    exact SX.S_cat [45] _
  · rw [if_neg h]
    have e : i = ((i.natAbs : Nat) : Int) := by omega
    conv => lhs; rw [e]
    exact SX.num_S _
theorem intL_ne (i : Int) : intL i ≠ [] := by
  unfold intL
  split
  · simp
  · exact TL.numL_ne _
theorem intL_len {i : Int} {k : Nat} (hk : 0 < k) (h : i.natAbs < 10 ^ k) : (intL i).length ≤ k + 1 := by
  unfold intL
  have := TL.numL_len hk h
  split
  · simp; omega
  · omega
theorem lit_slash : ("/" : Str) = S [47] := by decide +kernel
theorem lit_plus : ("+" : Str) = S [43] := by decide +kernel
theorem lit_empty : ("" : Str) = S [] := by decide +kernel
theorem lit_0 : ("0" : Str) = S [48] := by decide +kernel
theorem lit_1 : ("1" : Str) = S [49] := by decide +kernel
theorem lit_n : ("n" : Str) = S [110] := by decide +kernel
theorem lit_k : ("k" : Str) = S [107] := by decide +kernel
theorem S_eq {a b : List Nat} : (S a = S b) ↔ (a = b) := ⟨SX.S_inj, fun h => by rw [h]⟩
def N_show_ratio : List Str := ["fraction"]
def d_show_ratio : DTS :=
  (dSeq (dIfS (dTest (dOp eqD (dOp ixD (dBor 0) (dC (.int 1))) (dC (.int 1)))) (dRet (dCB strD (dCons (dOp ixD (dBor 0) (dC (.int 0))) dNil))) dNext)
  (dRet (dOp addD (dOp addD (dCB strD (dCons (dOp ixD (dBor 0) (dC (.int 0))) dNil)) (dC (.str "/"))) (dCB strD (dCons (dOp ixD (dBor 0) (dC (.int 1))) dNil)))))
def ratL (r : Int × Int) : List Nat := if r.2 = 1 then intL r.1 else intL r.1 ++ 47 :: intL r.2
def Sm (i : Int) : Prop := i.natAbs < 10 ^ 300
theorem sm_log {i : Int} (h : Sm i) : i.natAbs.log2 < 1920 := by
  have h' : i.natAbs < 10 ^ 300 := h
  exact log2_lt (Nat.lt_of_lt_of_le h' (by decide +kernel)) (by decide)
theorem sm_len {i : Int} (h : Sm i) : (intL i).length ≤ 301 := intL_len (by decide) h
def FS_show_ratio : FS := { α := Int × Int, args := fun r => [rD r], pre := fun r => Sm r.1 ∧ Sm r.2, out := fun r => .ok (.str (S (ratL r))) }
theorem ev_str {ρ : DEnv} {t : DTE} {i : Int} (h : Ev t ρ (.int i) ρ) (hs : Sm i) : Ev (dCB strD (dCons t dNil)) ρ (.str (S (intL i))) ρ := ev_cb (eva_cons h eva_nil) fun P hP => ⟨sm_log hs, by rw [str_int]; exact hP⟩
theorem ev_cat {ρ : DEnv} {t u : DTE} {a b : List Nat} (h : Ev t ρ (.str (S a)) ρ) (h2 : Ev u ρ (.str (S b)) ρ) (hl : a.length + b.length ≤ sizeLine) : Ev (dOp addD t u) ρ (.str (S (a ++ b))) ρ := ev_op h h2 fun P hP => ⟨by rw [SX.S_len, SX.S_len]; exact hl, by rw [SX.S_cat]; exact hP⟩
theorem ev_lit {ρ : DEnv} {x : Str} {a : List Nat} (h : x = S a) : Ev (dC (.str x)) ρ (.str (S a)) ρ := fun Q E k => by subst h; exact k
theorem ev_r1 {ρ : DEnv} {k : Nat} {r : Int × Int} (h : nth ρ k = .sh (rD r)) : Ev (dOp ixD (dBor k) (dC (.int 0))) ρ (.int r.1) ρ := ev_op (ev_bori h) ev_c fun P hP => ⟨_, at_0, hP⟩
theorem ev_r2 {ρ : DEnv} {k : Nat} {r : Int × Int} (h : nth ρ k = .sh (rD r)) : Ev (dOp ixD (dBor k) (dC (.int 1))) ρ (.int r.2) ρ := ev_op (ev_bori h) ev_c fun P hP => ⟨_, at_1, hP⟩
theorem evt_eqi {ρ : DEnv} {t u : DTE} {i j : Int} (h : Ev t ρ (.int i) ρ) (h2 : Ev u ρ (.int j) ρ) : EvT (dTest (dOp eqD t u)) ρ (decide (i = j)) ρ := evt_test (ev_op h h2 fun P hP => hP)
theorem sl_ok {n : Nat} (h : n ≤ 16777216) : n ≤ sizeLine := by rw [sizeLine_eq]; exact h
theorem hm_show_ratio : ∀ a, FS_show_ratio.pre a → d_show_ratio (DDof false (FS_show_ratio.out a)) (dstart N_show_ratio (FS_show_ratio.args a)) := by
  rintro r ⟨h1, h2⟩
  unfold d_show_ratio FS_show_ratio N_show_ratio
  dsimp only [dstart, istart, List.map_cons, List.map_nil, List.length_cons, List.length_nil, Nat.reduceAdd, Nat.reduceSub, List.replicate_succ, List.replicate_zero, List.cons_append, List.nil_append, List.tail_cons]
  have l1 := sm_len h1
  have l2 := sm_len h2
  refine s_if (evt_eqi (ev_r2 rfl) ev_c) ?_
  by_cases c : r.2 = 1
  · rw [decide_eq_true c, if_pos rfl]
    refine s_ret (ev_str (ev_r1 rfl) h1) ?_
    show (.ok (.str (S (ratL r))) : Except Str D) = _
    unfold ratL; rw [if_pos c]
  · rw [decide_eq_false c, if_neg Bool.false_ne_true]
    apply s_next
    refine e_ret (ev_cat (ev_cat (ev_str (ev_r1 rfl) h1) (ev_lit lit_slash) (sl_ok (by simp; omega))) (ev_str (ev_r2 rfl) h2) (sl_ok (by simp; omega))) ?_
    show (.ok (.str (S (ratL r))) : Except Str D) = _
    unfold ratL; rw [if_neg c]; simp
def N__law_ratio_text : List Str := ["_law_fraction", "_law_number_here"]
def d__law_ratio_text : DTS :=
  (dRet (dBM joinD (dC (.str "/")) (dCons (dSl slD (dLc (dItT (dVar 0)) (dgName 1) dYes (dCB strD (dCons (dBor 1) dNil)) [1]) dNoPart (dPart (dOp addD (dC (.int 1)) (dCB intD (dCons (dOp gtD (dOp ixD (dBor 0) (dC (.int 1))) (dC (.int 1))) dNil))))) dNil)))
def FS__law_ratio_text : FS := { α := Int × Int, args := fun r => [rD r], pre := fun r => Sm r.1 ∧ Sm r.2 ∧ 1 ≤ r.2, out := fun r => .ok (.str (S (ratL r))) }
def strOf : D → D
  | .int i => .str (S (intL i))
  | d => d
theorem join_2 {a b c : List Nat} : Txt.join (S c) [S a, S b] = S (a ++ c ++ b) := by
  have := SX.join_S c [a, b]
  simp only [List.map_cons, List.map_nil] at this
  rw [this]
  simp [TL.joinL]
theorem join_1 {a c : List Nat} : Txt.join (S c) [S a] = S a := by
  have := SX.join_S c [a]
  simp only [List.map_cons, List.map_nil] at this
  rw [this]
  simp [TL.joinL]
theorem ev_join {ρ : DEnv} {t u : DTE} {a : List Nat} {ys : List (List Nat)} {r : List Nat} (h : Ev t ρ (.str (S a)) ρ) (h2 : Ev u ρ (.lst (ys.map fun y => .str (S y))) ρ) (hl : (ys.map List.length).sum + ys.length * a.length ≤ 16777216) (e : TL.joinL a ys = r) :
    Ev (dBM joinD t (dCons u dNil)) ρ (.str (S r)) ρ := ev_bm h (eva_cons h2 eva_nil) fun P hP => ⟨S a, ys.map S, rfl, .inl (by simp [S]), by
      rw [SX.lens, List.length_map, SX.S_len]; exact hl, by rw [SX.join_S, e]; exact hP⟩
theorem hm__law_ratio_text : ∀ a, FS__law_ratio_text.pre a → d__law_ratio_text (DDof false (FS__law_ratio_text.out a)) (dstart N__law_ratio_text (FS__law_ratio_text.args a)) := by
  rintro r ⟨h1, h2, h3⟩
  unfold d__law_ratio_text FS__law_ratio_text N__law_ratio_text
  dsimp only [dstart, istart, List.map_cons, List.map_nil, List.length_cons, List.length_nil, Nat.reduceAdd, Nat.reduceSub, List.replicate_succ, List.replicate_zero, List.cons_append, List.nil_append, List.tail_cons]
  have l1 := sm_len h1
  have l2 := sm_len h2
  have lc : Ev (dLc (dItT (dVar 0)) (dgName 1) dYes (dCB strD (dCons (dBor 1) dNil)) [1]) [.sh (rD r), .em] (.lst [.str (S (intL r.1)), .str (S (intL r.2))]) [.sh (rD r), .em] := by
    refine ev_lczM [r.1, r.2] D.int (fun i => .str (S (intL i))) (fun Q E h => h) (show (2 : Nat) ≤ sizeLine by decide) fun i hi Q' k => ?_
    have hs : Sm i := by
      simp only [List.mem_cons, List.not_mem_nil, or_false] at hi
      rcases hi with rfl | rfl
      · exact h1
      · exact h2
    exact ev_str (ev_bori rfl) hs _ _ (k _ rfl)
  have num : Ev (dOp addD (dC (.int 1)) (dCB intD (dCons (dOp gtD (dOp ixD (dBor 0) (dC (.int 1))) (dC (.int 1))) dNil))) [.sh (rD r), .em] (.int (1 + if decide (1 < r.2) = true then 1 else 0)) [.sh (rD r), .em] :=
    ev_op ev_c (ev_cb (eva_cons (ev_op (ev_r2 rfl) ev_c fun P hP => hP) eva_nil) fun P hP => hP) fun P hP => hP
  by_cases c : r.2 = 1
  · refine e_ret (ev_join (ys := [intL r.1]) (ev_lit lit_slash) (fun Q E h => ?_) (by simp; omega) rfl) ?_
    · refine lc _ _ (num _ _ ?_)
      rw [c]
      exact h
    · show (.ok (.str (S (ratL r))) : Except Str D) = _
      unfold ratL; rw [if_pos c]; simp [TL.joinL]
  · have c2 : 1 < r.2 := by omega
    refine e_ret (ev_join (ys := [intL r.1, intL r.2]) (ev_lit lit_slash) (fun Q E h => ?_) (by simp; omega) rfl) ?_
    · refine lc _ _ (num _ _ ?_)
      rw [decide_eq_true c2]
      exact h
    · show (.ok (.str (S (ratL r))) : Except Str D) = _
      unfold ratL; rw [if_neg c]; simp [TL.joinL]
/-! forms -/
def pc (i : Int) (l : List Nat) : List Nat := if i = 0 then [] else if l ≠ [] ∧ i.natAbs = 1 then (if i < 0 then 45 :: l else l) else intL i ++ l
def stp (acc : List Nat) (i : Int) (l : List Nat) : List Nat := acc ++ ((if 0 < i ∧ acc ≠ [] then [43] else []) ++ pc i l)
def form3 (f : Form) : List Nat := stp (stp (stp [] f.n [110]) f.k [107]) f.c []
def formL (f : Form) : List Nat := if form3 f = [] then [48] else form3 f
theorem pc_ne {i : Int} {l : List Nat} (h : i ≠ 0) : pc i l ≠ [] := by
  unfold pc
  rw [if_neg h]
  split
  · rename_i c
    split
    · simp
    · exact c.1
  · simp [intL_ne]
theorem pc_len {i : Int} {l : List Nat} (h : Sm i) : (pc i l).length ≤ 301 + l.length := by
  have := sm_len h
  unfold pc
  split
  · simp
  · split
    · split <;> simp <;> omega
    · simp; omega
theorem stp_len {acc l : List Nat} {i : Int} (h : Sm i) : (stp acc i l).length ≤ acc.length + 302 + l.length := by
  have := pc_len (l := l) h
  unfold stp
  split <;> simp <;> omega
def FSm (f : Form) : Prop := Sm f.n ∧ Sm f.k ∧ Sm f.c
theorem form_len {f : Form} (h : FSm f) : (formL f).length ≤ 1000 := by
  have h1 := stp_len (acc := []) (l := [110]) h.1
  have h2 := stp_len (acc := stp [] f.n [110]) (l := [107]) h.2.1
  have h3 := stp_len (acc := stp (stp [] f.n [110]) f.k [107]) (l := []) h.2.2
  simp at h1 h2 h3
  unfold formL form3
  split
  · simp
  · omega
end T57

end

section
namespace T57
open PySem PySem.Spec PyProof.Rows L2 DL
def N__law_form_text : List Str := ["_law_form", "_law_words", "_law_k", "_law_word"]
def d__law_form_text : DTS :=
  (dSeq (dOwn 1 (dLst dNil))
  (dSeq (dFor (dItR1 (dCons (dC (.int 3)) dNil)) (dgName 2) (dSeq (dSet 3 (dCB strD (dCons (dOp ixD (dBor 0) (dBor 2)) dNil)))
  (dSeq (dIfS (dAndT (dTest (dOp ltD (dBor 2) (dC (.int 2)))) (dAndT (dTest (dOp eqD (dSl slD (dBor 3) (dPart (dUn negD (dC (.int 1)))) dNoPart) (dC (.str "1")))) (dTest (dOp eqD (dCB absD (dCons (dOp ixD (dBor 0) (dBor 2)) dNil)) (dC (.int 1)))))) (dSet 3 (dSl slD (dBor 3) dNoPart (dPart (dUn negD (dC (.int 1)))))) dNext)
  (dSeq (dIfS (dAndT (dTest (dOp gtD (dOp ixD (dBor 0) (dBor 2)) (dC (.int 0)))) (dTest (dOp gtD (dCB lenD (dCons (dBor 1) dNil)) (dC (.int 0))))) (dSet 3 (dOp addD (dC (.str "+")) (dBor 3))) dNext)
  (dIfS (dTest (dOp neD (dOp ixD (dBor 0) (dBor 2)) (dC (.int 0)))) (dApp 1 (dOp addD (dBor 3) (dOp ixD (dLst (dCons (dC (.str "n")) (dCons (dC (.str "k")) (dCons (dC (.str "")) dNil)))) (dBor 2)))) dNext)))))
  (dSeq (dIfS (dTest (dOp eqD (dBor 1) (dLst dNil))) (dRet (dC (.str "0"))) dNext)
  (dRet (dBM joinD (dC (.str "")) (dCons (dBor 1) dNil))))))
def wst (ws : List (List Nat)) (i : Int) (l : List Nat) : List (List Nat) := if i = 0 then ws else ws ++ [(if 0 < i ∧ ws ≠ [] then [43] else []) ++ pc i l]
def wD (ws : List (List Nat)) : D := .lst (ws.map fun w => .str (S w))
theorem wst_ok {ws : List (List Nat)} {acc : List Nat} (h : ws.flatten = acc) (hn : ∀ w ∈ ws, w ≠ []) (i : Int) (l : List Nat) : (wst ws i l).flatten = stp acc i l ∧ ∀ w ∈ wst ws i l, w ≠ [] := by
  have e : ws ≠ [] ↔ acc ≠ [] := by
    rw [← h]
    cases ws with
    | nil => simp
    | cons w r =>
      have := hn w List.mem_cons_self
      simp [this]
  unfold wst stp
  by_cases c : i = 0
  · rw [if_pos c]
    refine ⟨?_, hn⟩
    have p : pc i l = [] := by unfold pc; rw [if_pos c]
    have c2 : ¬ (0 < i ∧ acc ≠ []) := by omega
    rw [p, if_neg c2]
    simp [h]
  · rw [if_neg c]
    refine ⟨?_, fun w hw => ?_⟩
    · simp only [List.flatten_append, h, List.flatten_cons, List.flatten_nil, List.append_nil, e]
    · rcases List.mem_append.mp hw with hw | hw
      · exact hn w hw
      · simp only [List.mem_cons, List.not_mem_nil, or_false] at hw
        subst hw
        simp [pc_ne c]
def compI (f : Form) : Nat → Int
  | 0 => f.n
  | 1 => f.k
  | _ => f.c
def compL : Nat → List Nat
  | 0 => [110]
  | 1 => [107]
  | _ => []
def wGo (f : Form) : Nat → List (List Nat)
  | 0 => []
  | i + 1 => wst (wGo f i) (compI f i) (compL i)
def aGo (f : Form) : Nat → List Nat
  | 0 => []
  | i + 1 => stp (aGo f i) (compI f i) (compL i)
theorem wGo_ok (f : Form) : ∀ i, (wGo f i).flatten = aGo f i ∧ ∀ w ∈ wGo f i, w ≠ []
  | 0 => ⟨rfl, by simp [wGo]⟩
  | i + 1 => wst_ok (wGo_ok f i).1 (wGo_ok f i).2 _ _
/-- plain signs -/
def Sig (l : List Nat) : Prop := ∀ c ∈ l, c < 128
theorem Sig.app {a b : List Nat} (h : Sig a) (h2 : Sig b) : Sig (a ++ b) := fun c m => by
  rcases List.mem_append.mp m with m | m
  · exact h c m
  · exact h2 c m
theorem sig_int (i : Int) : Sig (intL i) := fun c m => by
  have hd : ∀ c ∈ TL.numL i.natAbs, c < 128 := fun c m => by
    have := TL.numL_digits i.natAbs c m
    omega
  unfold intL at m
  split at m
  · rcases List.mem_cons.mp m with rfl | m
    · decide
    · exact hd c m
  · exact hd c m
theorem sig_pc {i : Int} {l : List Nat} (h : Sig l) : Sig (pc i l) := by
  unfold pc
  split
  · intro c m; simp at m
  · split
    · split
      · intro c m
        rcases List.mem_cons.mp m with rfl | m
        · decide
        · exact h c m
      · exact h
    · exact (sig_int i).app h
theorem sig_if {p : Prop} [Decidable p] : Sig (if p then [43] else []) := by
  split
  · intro c m; simp at m; subst m; decide
  · intro c m; simp at m
theorem sig_comp (i : Nat) : Sig (compL i) := by
  match i with
  | 0 => intro c m; simp [compL] at m; subst m; decide
  | 1 => intro c m; simp [compL] at m; subst m; decide
  | n + 2 => intro c m; simp [compL] at m
theorem sig_w (f : Form) : ∀ i, ∀ w ∈ wGo f i, Sig w
  | 0, w, m => by simp [wGo] at m
  | i + 1, w, m => by
    have m' : w ∈ wst (wGo f i) (compI f i) (compL i) := m
    unfold wst at m'
    split at m'
    · exact sig_w f i w m'
    · rcases List.mem_append.mp m' with m' | m'
      · exact sig_w f i w m'
      · simp only [List.mem_cons, List.not_mem_nil, or_false] at m'
        subst m'
        exact sig_if.app (sig_pc (sig_comp i))
theorem sig_ok {l : List Nat} (h : Sig l) : PyData.strOk (S l) = true := by
  unfold PyData.strOk
  rw [Array.all_eq_true']
  intro c m
  have := h c (by simpa [S] using m)
  exact decide_eq_true (by omega)
theorem wGo_tot (f : Form) (h : FSm f) : ∀ i, ∀ w ∈ wGo f i, w.length ≤ 303
  | 0, w, m => by simp [wGo] at m
  | i + 1, w, m => by
    have m' : w ∈ wst (wGo f i) (compI f i) (compL i) := m
    unfold wst at m'
    split at m'
    · exact wGo_tot f h i w m'
    · rcases List.mem_append.mp m' with m' | m'
      · exact wGo_tot f h i w m'
      · simp only [List.mem_cons, List.not_mem_nil, or_false] at m'
        subst m'
        have h1 : Sm (compI f i) := by
          match i with
          | 0 => exact h.1
          | 1 => exact h.2.1
          | n + 2 => exact h.2.2
        have h2 := pc_len (l := compL i) h1
        have h3 : (compL i).length ≤ 1 := by
          match i with
          | 0 => exact Nat.le_refl _
          | 1 => exact Nat.le_refl _
          | n + 2 => exact Nat.zero_le _
        rw [List.length_append]
        split <;> simp <;> omega
theorem wGo_len (f : Form) : ∀ i, (wGo f i).length ≤ i
  | 0 => by simp [wGo]
  | i + 1 => by
    have := wGo_len f i
    show (wst _ _ _).length ≤ _
    unfold wst
    split
    · omega
    · simp; omega
theorem at_f {f : Form} {i : Nat} (h : i < 3) : L2.atI [D.int f.n, .int f.k, .int f.c] (i : Int) = some (.int (compI f i)) := by
  match i, h with
  | 0, _ => exact at_0
  | 1, _ => exact at_1
  | 2, _ => exact at_2
theorem compI_sm {f : Form} (h : FSm f) (i : Nat) : Sm (compI f i) := by
  match i with
  | 0 => exact h.1
  | 1 => exact h.2.1
  | n + 2 => exact h.2.2
theorem at_l {i : Nat} (h : i < 3) : L2.atI [D.str "n", .str "k", .str ""] (i : Int) = some (.str (S (compL i))) := by
  match i, h with
  | 0, _ => rw [lit_n]; exact at_0
  | 1, _ => rw [lit_k]; exact at_1
  | 2, _ => rw [lit_empty]; exact at_2
def FS__law_form_text : FS := { α := Form, args := fun f => [fD f], pre := FSm, out := fun f => .ok (.str (S (formL f))) }
theorem sum_le {B : Nat} : ∀ {ws : List (List Nat)}, (∀ w ∈ ws, w.length ≤ B) → (ws.map List.length).sum ≤ ws.length * B
  | [], _ => by simp
  | w :: r, h => by
    have h1 := h w List.mem_cons_self
    have h2 := sum_le fun x m => h x (List.mem_cons_of_mem _ m)
    simp only [List.map_cons, List.sum_cons, List.length_cons]
    rw [Nat.add_mul]
    omega
theorem joinL_nil : ∀ ws : List (List Nat), TL.joinL [] ws = ws.flatten
  | [] => rfl
  | [p] => by simp [TL.joinL]
  | p :: q :: r => by
    unfold TL.joinL
    rw [joinL_nil (q :: r)]
    simp
theorem intL_one {i : Int} (h : i.natAbs = 1) : intL i = (if i < 0 then [45] else []) ++ [49] := by
  unfold intL
  rw [h, TL.numL_lt (by decide)]
  split <;> rfl
theorem ev_fi {ρ : DEnv} {f : Form} {i : Nat} (h : nth ρ 0 = .sh (fD f)) (h2 : nth ρ 2 = .sh (.int i)) (hi : i < 3) : Ev (dOp ixD (dBor 0) (dBor 2)) ρ (.int (compI f i)) ρ := ev_op (ev_bori h) (ev_bori h2) fun P hP => ⟨_, at_f hi, hP⟩
theorem evt_lti {ρ : DEnv} {t u : DTE} {i j : Int} (h : Ev t ρ (.int i) ρ) (h2 : Ev u ρ (.int j) ρ) : EvT (dTest (dOp ltD t u)) ρ (decide (i < j)) ρ := evt_test (ev_op h h2 fun P hP => hP)
theorem evt_gti {ρ : DEnv} {t u : DTE} {i j : Int} (h : Ev t ρ (.int i) ρ) (h2 : Ev u ρ (.int j) ρ) : EvT (dTest (dOp gtD t u)) ρ (decide (j < i)) ρ := evt_test (ev_op h h2 fun P hP => hP)
theorem evt_nei {ρ : DEnv} {t u : DTE} {i j : Int} (h : Ev t ρ (.int i) ρ) (h2 : Ev u ρ (.int j) ρ) : EvT (dTest (dOp neD t u)) ρ (!decide (i = j)) ρ := evt_test (ev_op h h2 fun P hP => hP)
theorem evt_eqs {ρ : DEnv} {t u : DTE} {a b : List Nat} (h : Ev t ρ (.str (S a)) ρ) (h2 : Ev u ρ (.str (S b)) ρ) : EvT (dTest (dOp eqD t u)) ρ (decide (a = b)) ρ := evt_test (ev_op h h2 fun P hP => by
  show P (.bl (decide (S a = S b)))
  rw [show decide (S a = S b) = decide (a = b) from decide_eq_decide.mpr S_eq]
  exact hP)
theorem ev_abs {ρ : DEnv} {t : DTE} {i : Int} (h : Ev t ρ (.int i) ρ) : Ev (dCB absD (dCons t dNil)) ρ (.int (i.natAbs : Int)) ρ := ev_cb (eva_cons h eva_nil) fun P hP => by
  show P (.int (if i < 0 then -i else i))
  rw [abs_nat]; exact hP
theorem ev_last {ρ : DEnv} {t : DTE} {a : List Nat} (h : Ev t ρ (.str (S a)) ρ) (hn : a ≠ []) (hl : a.length ≤ sizeLine) : Ev (dSl slD t (dPart (dUn negD (dC (.int 1)))) dNoPart) ρ (.str (S (a.drop (a.length - 1)))) ρ := fun Q E k => h _ _ (by
  show (S a).length ≤ sizeLine ∧ Q (.str (cutS (S a) (some (-1)) none)) ρ
  rw [C8.cutS_slice, SX.slice_last hn, SX.S_len]
  exact ⟨hl, k⟩)
theorem ev_butlast {ρ : DEnv} {t : DTE} {a : List Nat} (h : Ev t ρ (.str (S a)) ρ) (hn : a ≠ []) (hl : a.length ≤ sizeLine) : Ev (dSl slD t dNoPart (dPart (dUn negD (dC (.int 1))))) ρ (.str (S (a.take (a.length - 1)))) ρ := fun Q E k => h _ _ (by
  show (S a).length ≤ sizeLine ∧ Q (.str (cutS (S a) none (some (-1)))) ρ
  rw [C8.cutS_slice, SX.slice_butlast hn, SX.S_len]
  exact ⟨hl, k⟩)
theorem ev_lenO {ρ : DEnv} {k : Nat} {ds : List D} (h : nth ρ k = .ow (.lst ds)) : Ev (dCB lenD (dCons (dBor k) dNil)) ρ (.int (ds.length : Int)) ρ := ev_cb (eva_cons (ev_borO h) eva_nil) fun P hP => hP
theorem hm__law_form_text : ∀ a, FS__law_form_text.pre a → d__law_form_text (DDof false (FS__law_form_text.out a)) (dstart N__law_form_text (FS__law_form_text.args a)) := by
  intro f hs
  unfold d__law_form_text FS__law_form_text N__law_form_text
  dsimp only [dstart, istart, List.map_cons, List.map_nil, List.length_cons, List.length_nil, Nat.reduceAdd, Nat.reduceSub, List.replicate_succ, List.replicate_zero, List.cons_append, List.nil_append, List.tail_cons]
  have hs : FSm f := hs
  refine s_own (ev_lst eva_nil (Nat.zero_le _)) ?_
  refine for_i (rangeD 0 3) (fun i ρ => ∃ s2 s3, ρ = [.sh (fD f), .ow (wD (wGo f i)), s2, s3]) (fun Q h => ?_) ⟨_, _, rfl⟩ ?_ ?_
  · simp only [dSeq, dNext, dSet, dOwn, dRet, dRetN, dIfS, dDrop, dAsg, dPar, dAug, dSetIx, dApp, dClear, dRaise, dTest, dTru, truD, dAndT, dOrT, dNotT, dIf, dAndV, dOrV, dNotV, dOp, dUn, dCB, dBM, dNilA, dVar, dBor, dGive, dC, dCons, dNil, dTup, dLst, dSl, dPart, dNoPart, dIsi, nth, dstart, istart, dFld, dFldSet, putD, dgName, dgTup, dgCons, dgNil, dItL, dItT, dItS, dItR1, dItR2, dItE, dItZ, dYes, dMeth, dOr, Ends2, addD, iaddD, imulD, subD, mulD, fdivD, modD, powD, cmpD, eqD, neD, isD, isNotD, negD, absD, lenD, max2D, min2D, DL.intD, strD, tupleD, listD, catD, repD, slD, slDL, ixD, inSD, notInSD, startswithD, endswithD, findD, isdigitD, splitD, partitionD, joinD, lstripD, List.map_cons, List.map_nil, List.length_cons, List.length_nil, List.cons_append, List.nil_append, List.set_cons_zero, List.set_cons_succ, Nat.reduceAdd, Nat.reduceSub, List.replicate_succ, List.replicate_zero, List.tail_cons, Bool.false_eq_true, if_true, if_false, ite_true, ite_false, reduceIte, true_and, and_true, Bool.not_true, Bool.not_false, decide_eq_true_eq, Bool.not_eq_true', decide_eq_false_iff_not, ne_eq, reduceCtorEq, not_false_eq_true, DL.MulOk, at_0, at_1, at_2, Option.some.injEq, exists_eq_left, exists_eq_left', Int.reduceAdd, Int.reduceSub, Int.reduceMul, Int.reduceNeg, Int.reduceToNat, Int.reduceEq, Int.reduceLT, Int.reduceLE, Nat.reduceLeDiff, Nat.reduceLT, Nat.reduceEqDiff, sizeLine_eq]
    exact ⟨by decide, by decide, h⟩
  · rintro i d ρ hd ⟨s2, s3, rfl⟩
    obtain ⟨rfl, hi⟩ := rangeD_at hd
    have e0 : (0 + (i : Int)) = (i : Int) := by omega
    have hx := compI_sm hs i
    have lx := sm_len hx
    have hwl := wGo_len f i
    rw [e0]
    apply g_name
    -- the word
    refine s_set (d := .str (S (intL (compI f i)))) (ev_str (ev_fi rfl rfl hi) hx) ?_
    refine s_if (evt_and (evt_lti (ev_bori rfl) ev_c) fun _ => evt_and (evt_eqs (ev_last (ev_bori rfl) (intL_ne _) (sl_ok (by omega))) (ev_lit lit_1)) fun _ => evt_eqi (ev_abs (ev_fi rfl rfl hi)) ev_c) ?_
    have rest : ∀ DD : DEnds, (∀ s2 s3, DD.nx [.sh (fD f), .ow (wD (wGo f (i + 1))), s2, s3]) → ∀ wd : List Nat, wd.length ≤ 301 → (pc (compI f i) (compL i) = wd ++ compL i ∨ compI f i = 0) → dSeq (dIfS (dAndT (dTest (dOp gtD (dOp ixD (dBor 0) (dBor 2)) (dC (.int 0)))) (dTest (dOp gtD (dCB lenD (dCons (dBor 1) dNil)) (dC (.int 0))))) (dSet 3 (dOp addD (dC (.str "+")) (dBor 3))) dNext) (dIfS (dTest (dOp neD (dOp ixD (dBor 0) (dBor 2)) (dC (.int 0)))) (dApp 1 (dOp addD (dBor 3) (dOp ixD (dLst (dCons (dC (.str "n")) (dCons (dC (.str "k")) (dCons (dC (.str "")) dNil)))) (dBor 2)))) dNext) DD [.sh (fD f), .ow (wD (wGo f i)), .sh (.int i), .sh (.str (S wd))] := by
      intro DD hDD wd hwd hpc
      refine s_if (evt_and (evt_gti (ev_fi rfl rfl hi) ev_c) fun _ => evt_gti (ev_lenO rfl) ev_c) ?_
      have fin : ∀ w2 : List Nat, w2.length ≤ 302 → (w2 = (if 0 < compI f i ∧ wGo f i ≠ [] then [43] else []) ++ wd) → dIfS (dTest (dOp neD (dOp ixD (dBor 0) (dBor 2)) (dC (.int 0)))) (dApp 1 (dOp addD (dBor 3) (dOp ixD (dLst (dCons (dC (.str "n")) (dCons (dC (.str "k")) (dCons (dC (.str "")) dNil)))) (dBor 2)))) dNext DD [.sh (fD f), .ow (wD (wGo f i)), .sh (.int i), .sh (.str (S w2))] := by
        intro w2 hl2 ew
        apply toSeq
        refine s_if (evt_nei (ev_fi rfl rfl hi) ev_c) ?_
        by_cases c : compI f i = 0
        · rw [decide_eq_true c]
          have e : wGo f (i + 1) = wGo f i := by show wst _ _ _ = _; unfold wst; rw [if_pos c]
          rw [e] at hDD
          exact hDD _ _
        · rw [decide_eq_false c]
          have hlc : (compL i).length ≤ 1 := by
            match i, hi with
            | 0, _ => exact Nat.le_refl _
            | 1, _ => exact Nat.le_refl _
            | 2, _ => exact Nat.zero_le _
          refine s_app (ds := (wGo f i).map fun w => .str (S w)) rfl (by rw [List.length_map, sizeLine_eq]; omega) (ev_cat (ev_bori rfl) (ev_op (ev_lst (eva_cons ev_c (eva_cons ev_c (eva_cons ev_c eva_nil))) (show (3 : Nat) ≤ sizeLine by decide)) (ev_bori rfl) fun P hP => ⟨_, at_l hi, hP⟩) (sl_ok (by omega))) ?_
          have e : wD (wGo f (i + 1)) = .lst ((wGo f i).map (fun w => .str (S w)) ++ [.str (S (w2 ++ compL i))]) := by
            show wD (wst _ _ _) = _
            unfold wst wD
            rw [if_neg c]
            rcases hpc with hpc | hpc
            · rw [hpc, ew]; simp
            · exact absurd hpc c
          rw [e] at hDD
          exact hDD _ _
      by_cases c : 0 < compI f i ∧ wGo f i ≠ []
      · have e : (decide (0 < compI f i) && decide ((0 : Int) < (((wGo f i).map fun w => D.str (S w)).length : Int))) = true := by
          have : 0 < (wGo f i).length := List.length_pos_iff.mpr c.2
          simp [c.1]
          omega
        rw [e, if_pos rfl]
        refine s_set (ev_cat (ev_lit lit_plus) (ev_bori rfl) (sl_ok (by simp; omega))) ?_
        exact fin _ (by simp; omega) (by rw [if_pos c])
      · have e : (decide (0 < compI f i) && decide ((0 : Int) < (((wGo f i).map fun w => D.str (S w)).length : Int))) = false := by
          by_cases c1 : 0 < compI f i
          · have c2 : wGo f i = [] := Classical.byContradiction fun h => c ⟨c1, h⟩
            simp [c2]
          · simp [c1]
        rw [e, if_neg Bool.false_ne_true]
        apply s_next
        exact fin wd (by omega) (by rw [if_neg c]; rfl)
    by_cases c : i < 2 ∧ (compI f i).natAbs = 1
    · have ei := intL_one c.2
      have e : (decide ((i : Int) < 2) && (decide ((intL (compI f i)).drop ((intL (compI f i)).length - 1) = [49]) && decide (((compI f i).natAbs : Int) = 1))) = true := by
        have h1 : decide ((i : Int) < 2) = true := decide_eq_true (by omega)
        have h2 : decide (((compI f i).natAbs : Int) = 1) = true := decide_eq_true (by omega)
        have h3 : decide ((intL (compI f i)).drop ((intL (compI f i)).length - 1) = [49]) = true := decide_eq_true (by rw [ei]; split <;> rfl)
        rw [h1, h2, h3]; rfl
      rw [e, if_pos rfl]
      refine s_set (ev_butlast (ev_bori rfl) (intL_ne _) (sl_ok (by omega))) ?_
      refine rest _ ?_ _ (by simp; omega) (.inl ?_)
      · intro s2 s3; exact ⟨_, _, rfl⟩
      have hl : compL i ≠ [] := by
        match i, c.1 with
        | 0, _ => exact List.cons_ne_nil _ _
        | 1, _ => exact List.cons_ne_nil _ _
      have h0 : compI f i ≠ 0 := by omega
      unfold pc
      rw [if_neg h0, if_pos ⟨hl, c.2⟩, ei]
      split <;> simp
    · have e : (decide ((i : Int) < 2) && (decide ((intL (compI f i)).drop ((intL (compI f i)).length - 1) = [49]) && decide (((compI f i).natAbs : Int) = 1))) = false := by
        by_cases h1 : i < 2
        · have h2 : decide (((compI f i).natAbs : Int) = 1) = false := decide_eq_false (fun z => c ⟨h1, by omega⟩)
          rw [h2]; simp
        · have h1 : decide ((i : Int) < 2) = false := decide_eq_false (by omega)
          rw [h1]; rfl
      rw [e, if_neg Bool.false_ne_true]
      apply s_next
      refine rest _ ?_ _ (by omega) ?_
      · intro s2 s3; exact ⟨_, _, rfl⟩
      by_cases h0 : compI f i = 0
      · exact .inr h0
      · refine .inl ?_
        have hl : ¬ (compL i ≠ [] ∧ (compI f i).natAbs = 1) := by
          rintro ⟨h1, h2⟩
          refine c ⟨?_, h2⟩
          match i, hi, h1 with
          | 0, _, _ => decide
          | 1, _, _ => decide
          | 2, _, h1 => exact absurd rfl h1
        unfold pc
        rw [if_neg h0, if_neg hl]
  · rintro ρ ⟨s2, s3, rfl⟩
    dsimp only
    obtain ⟨h1, h2⟩ := wGo_ok f 3
    have e3 : aGo f 3 = form3 f := rfl
    rw [rangeD_len]
    refine s_if (b := (wGo f 3).isEmpty) (evt_test (ev_op (ev_borO rfl) (ev_lst eva_nil (Nat.zero_le _)) fun P hP => ?_)) ?_
    · refine eq_lst (okN.ok (n := 3) (okN_lst fun d m => ?_)) (okN.ok (n := 3) (okN_lst fun d m => nomatch m)) (eqv_nil.trans ?_) hP
      · obtain ⟨w, hw, rfl⟩ := List.mem_map.mp m
        exact okN_str (sig_ok (sig_w f 3 w hw))
      · cases wGo f 3 <;> rfl
    · by_cases c : form3 f = []
      · have e : wGo f 3 = [] := by
          rw [← e3, ← h1] at c
          cases e : wGo f 3 with
          | nil => rfl
          | cons w r =>
            rw [e] at c h2
            have := h2 w List.mem_cons_self
            simp [this] at c
        rw [e]
        refine s_ret (d := .str (S [48])) (ev_lit lit_0) ?_
        show (.ok (.str (S (formL f))) : Except Str D) = _
        unfold formL; rw [if_pos c]
      · have e : (wGo f 3).isEmpty = false := by
          cases e : wGo f 3 with
          | nil => rw [e] at h1; exact absurd (e3 ▸ h1.symm) c
          | cons w r => rfl
        rw [e, if_neg Bool.false_ne_true]
        apply s_next
        have htot := wGo_tot f hs 3
        have hlen := wGo_len f 3
        have hsum := sum_le htot
        refine e_ret (d := .str (S (formL f))) (ev_join (ys := wGo f 3) (ev_lit lit_empty) (ev_borO rfl) ?_ ?_) rfl
        · have : (wGo f 3).length * 303 ≤ 3 * 303 := Nat.mul_le_mul_right _ hlen
          simp
          omega
        · rw [joinL_nil, h1, e3]
          unfold formL
          rw [if_neg c]
end T57

end

section
namespace T57
open PySem PySem.Spec PyProof.Rows L2 DL
def FS_show_form : FS := { α := Form, args := fun f => [fD f], pre := FSm, out := fun f => .ok (.str (S (formL f))) }
def partL : Part → List Nat
  | .cho u l => [67, 40] ++ formL u ++ [44, 32] ++ formL l ++ [41]
  | .wei f => [40] ++ formL f ++ [41]
  | .pow r => [91] ++ ratL r ++ [93, 94, 107]
  | .gro r => [91] ++ ratL r ++ [93, 94, 110]
def PSm : Part → Prop
  | .cho u l => FSm u ∧ FSm l
  | .wei f => FSm f
  | .pow r => Sm r.1 ∧ Sm r.2
  | .gro r => Sm r.1 ∧ Sm r.2
theorem lit_C : ("C(" : Str) = S [67, 40] := by decide +kernel
theorem lit_cm : (", " : Str) = S [44, 32] := by decide +kernel
theorem lit_cl : (")" : Str) = S [41] := by decide +kernel
theorem lit_op : ("(" : Str) = S [40] := by decide +kernel
theorem lit_br : ("[" : Str) = S [91] := by decide +kernel
theorem lit_rk : ("]^k" : Str) = S [93, 94, 107] := by decide +kernel
theorem lit_rn : ("]^n" : Str) = S [93, 94, 110] := by decide +kernel
theorem lit_star : (" * " : Str) = S [32, 42, 32] := by decide +kernel
theorem rat_len {r : Int × Int} (h : Sm r.1 ∧ Sm r.2) : (ratL r).length ≤ 700 := by
  have h1 := sm_len h.1
  have h2 := sm_len h.2
  unfold ratL
  split
  · omega
  · simp; omega
theorem part_len {p : Part} (h : PSm p) : (partL p).length ≤ 2100 := by
  cases p with
  | cho u l => have h1 := form_len h.1; have h2 := form_len h.2; simp [partL]; omega
  | wei f => have h1 := form_len h; simp [partL]; omega
  | pow r => have h1 := rat_len h; simp [partL]; omega
  | gro r => have h1 := rat_len h; simp [partL]; omega
/-- the words of a part -/
theorem ev_wt {ρ : DEnv} {k : Nat} {p : Part} {z : Str} {b : Bool} (h : nth ρ k = .sh (pD p)) (e : decide (wordP p = z) = b) : EvT (dTest (dOp eqD (dOp ixD (dBor k) (dC (.int 0))) (dC (.str z)))) ρ b ρ := evt_test (ev_op (ev_word h) ev_c fun P hP => by
  show P (.bl (decide (wordP p = z)))
  rw [e]; exact hP)
theorem w_cc {u l : Form} : decide (wordP (.cho u l) = "choose") = true := by show decide (("choose" : Str) = "choose") = true; decide
theorem w_wc {f : Form} : decide (wordP (.wei f) = "choose") = false := by show decide (("weight" : Str) = "choose") = false; decide
theorem w_ww {f : Form} : decide (wordP (.wei f) = "weight") = true := by show decide (("weight" : Str) = "weight") = true; decide
theorem w_pc {r : Int × Int} : decide (wordP (.pow r) = "choose") = false := by show decide (("power" : Str) = "choose") = false; decide
theorem w_pw {r : Int × Int} : decide (wordP (.pow r) = "weight") = false := by show decide (("power" : Str) = "weight") = false; decide
theorem w_pp {r : Int × Int} : decide (wordP (.pow r) = "power") = true := by show decide (("power" : Str) = "power") = true; decide
theorem w_pg {r : Int × Int} : decide (wordP (.pow r) = "growth") = false := by show decide (("power" : Str) = "growth") = false; decide
theorem w_gc {r : Int × Int} : decide (wordP (.gro r) = "choose") = false := by show decide (("growth" : Str) = "choose") = false; decide
theorem w_gw {r : Int × Int} : decide (wordP (.gro r) = "weight") = false := by show decide (("growth" : Str) = "weight") = false; decide
theorem w_gp {r : Int × Int} : decide (wordP (.gro r) = "power") = false := by show decide (("growth" : Str) = "power") = false; decide
theorem w_gg {r : Int × Int} : decide (wordP (.gro r) = "growth") = true := by show decide (("growth" : Str) = "growth") = true; decide
theorem ev_i1 {ρ : DEnv} {k : Nat} {a b : D} {r : List D} (h : nth ρ k = .sh (.tup (a :: b :: r))) : Ev (dOp ixD (dBor k) (dC (.int 1))) ρ b ρ := ev_op (ev_bori h) ev_c fun P hP => ⟨_, at_1, hP⟩
theorem ev_i2 {ρ : DEnv} {k : Nat} {a b c : D} {r : List D} (h : nth ρ k = .sh (.tup (a :: b :: c :: r))) : Ev (dOp ixD (dBor k) (dC (.int 2))) ρ c ρ := ev_op (ev_bori h) ev_c fun P hP => ⟨_, at_2, hP⟩
def N_show_part : List Str := ["part"]
def d_show_part : DTS :=
  (dSeq (dIfS (dTest (dOp eqD (dOp ixD (dBor 0) (dC (.int 0))) (dC (.str "choose")))) (dRet (dOp addD (dOp addD (dOp addD (dOp addD (dC (.str "C(")) (dCall FS_show_form (dCons (dOp ixD (dBor 0) (dC (.int 1))) dNil))) (dC (.str ", "))) (dCall FS_show_form (dCons (dOp ixD (dBor 0) (dC (.int 2))) dNil))) (dC (.str ")")))) dNext)
  (dSeq (dIfS (dTest (dOp eqD (dOp ixD (dBor 0) (dC (.int 0))) (dC (.str "weight")))) (dRet (dOp addD (dOp addD (dC (.str "(")) (dCall FS_show_form (dCons (dOp ixD (dBor 0) (dC (.int 1))) dNil))) (dC (.str ")")))) dNext)
  (dSeq (dIfS (dTest (dOp eqD (dOp ixD (dBor 0) (dC (.int 0))) (dC (.str "power")))) (dRet (dOp addD (dOp addD (dC (.str "[")) (dCall FS_show_ratio (dCons (dOp ixD (dBor 0) (dC (.int 1))) dNil))) (dC (.str "]^k")))) dNext)
  (dRet (dOp addD (dOp addD (dC (.str "[")) (dCall FS_show_ratio (dCons (dOp ixD (dBor 0) (dC (.int 1))) dNil))) (dC (.str "]^n")))))))
def FS_show_part : FS := { α := Part, args := fun p => [pD p], pre := PSm, out := fun p => .ok (.str (S (partL p))) }
theorem hm_show_part : ∀ a, FS_show_part.pre a → d_show_part (DDof false (FS_show_part.out a)) (dstart N_show_part (FS_show_part.args a)) := by
  intro (p : Part) (hp : PSm p)
  unfold d_show_part FS_show_part N_show_part
  dsimp only [dstart, istart, List.map_cons, List.map_nil, List.length_cons, List.length_nil, Nat.reduceAdd, Nat.reduceSub, List.replicate_succ, List.replicate_zero, List.cons_append, List.nil_append, List.tail_cons]
  cases p with
  | cho u l =>
    have h1 := form_len hp.1
    have h2 := form_len hp.2
    refine s_ifT (ev_wt rfl w_cc) ?_
    refine s_ret (ev_cat (ev_cat (ev_cat (ev_cat (ev_lit lit_C) (ev_call (S := FS_show_form) u (eva_cons (ev_i1 rfl) eva_nil) hp.1 rfl) (sl_ok (by simp; omega))) (ev_lit lit_cm) (sl_ok (by simp; omega))) (ev_call (S := FS_show_form) l (eva_cons (ev_i2 rfl) eva_nil) hp.2 rfl) (sl_ok (by simp; omega))) (ev_lit lit_cl) (sl_ok (by simp; omega))) ?_
    rfl
  | wei f =>
    have h1 := form_len hp
    refine s_ifF (ev_wt rfl w_wc) ?_
    apply s_next
    refine s_ifT (ev_wt rfl w_ww) ?_
    refine s_ret (ev_cat (ev_cat (ev_lit lit_op) (ev_call (S := FS_show_form) f (eva_cons (ev_i1 rfl) eva_nil) hp rfl) (sl_ok (by simp; omega))) (ev_lit lit_cl) (sl_ok (by simp; omega))) ?_
    rfl
  | pow r =>
    have h1 := rat_len hp
    refine s_ifF (ev_wt rfl w_pc) ?_
    apply s_next
    refine s_ifF (ev_wt rfl w_pw) ?_
    apply s_next
    refine s_ifT (ev_wt rfl w_pp) ?_
    refine s_ret (ev_cat (ev_cat (ev_lit lit_br) (ev_call (S := FS_show_ratio) r (eva_cons (ev_i1 rfl) eva_nil) hp rfl) (sl_ok (by simp; omega))) (ev_lit lit_rk) (sl_ok (by simp; omega))) ?_
    rfl
  | gro r =>
    have h1 := rat_len hp
    refine s_ifF (ev_wt rfl w_gc) ?_
    apply s_next
    refine s_ifF (ev_wt rfl w_gw) ?_
    apply s_next
    refine s_ifF (ev_wt rfl w_gp) ?_
    apply s_next
    refine e_ret (ev_cat (ev_cat (ev_lit lit_br) (ev_call (S := FS_show_ratio) r (eva_cons (ev_i1 rfl) eva_nil) hp rfl) (sl_ok (by simp; omega))) (ev_lit lit_rn) (sl_ok (by simp; omega))) ?_
    rfl
def N__law_part_text : List Str := ["_law_part_here"]
def d__law_part_text : DTS :=
  (dSeq (dIfS (dTest (dOp eqD (dOp ixD (dBor 0) (dC (.int 0))) (dC (.str "choose")))) (dRet (dOp addD (dOp addD (dC (.str "C(")) (dBM joinD (dC (.str ", ")) (dCons (dLst (dCons (dCall FS__law_form_text (dCons (dOp ixD (dBor 0) (dC (.int 1))) dNil)) (dCons (dCall FS__law_form_text (dCons (dOp ixD (dBor 0) (dC (.int 2))) dNil)) dNil))) dNil))) (dC (.str ")")))) dNext)
  (dSeq (dIfS (dTest (dOp eqD (dOp ixD (dBor 0) (dC (.int 0))) (dC (.str "weight")))) (dRet (dOp addD (dOp addD (dC (.str "(")) (dCall FS__law_form_text (dCons (dOp ixD (dBor 0) (dC (.int 1))) dNil))) (dC (.str ")")))) dNext)
  (dRet (dOp addD (dOp addD (dC (.str "[")) (dCall FS__law_ratio_text (dCons (dOp ixD (dBor 0) (dC (.int 1))) dNil))) (dOp ixD (dLst (dCons (dC (.str "]^k")) (dCons (dC (.str "]^n")) dNil))) (dCB intD (dCons (dOp eqD (dOp ixD (dBor 0) (dC (.int 0))) (dC (.str "growth"))) dNil)))))))
def RPos : Part → Prop
  | .pow r => 1 ≤ r.2
  | .gro r => 1 ≤ r.2
  | _ => True
def FS__law_part_text : FS := { α := Part, args := fun p => [pD p], pre := fun p => PSm p ∧ RPos p, out := fun p => .ok (.str (S (partL p))) }
theorem hm__law_part_text : ∀ a, FS__law_part_text.pre a → d__law_part_text (DDof false (FS__law_part_text.out a)) (dstart N__law_part_text (FS__law_part_text.args a)) := by
  intro (p : Part) hh
  obtain ⟨hp, hr⟩ : PSm p ∧ RPos p := hh
  unfold d__law_part_text FS__law_part_text N__law_part_text
  dsimp only [dstart, istart, List.map_cons, List.map_nil, List.length_cons, List.length_nil, Nat.reduceAdd, Nat.reduceSub, List.replicate_succ, List.replicate_zero, List.cons_append, List.nil_append, List.tail_cons]
  cases p with
  | cho u l =>
    have h1 := form_len hp.1
    have h2 := form_len hp.2
    refine s_ifT (ev_wt rfl w_cc) ?_
    refine s_ret (ev_cat (ev_cat (ev_lit lit_C) (ev_join (ys := [formL u, formL l]) (ev_lit lit_cm) (ev_lst (eva_cons (ev_call (S := FS__law_form_text) u (eva_cons (ev_i1 rfl) eva_nil) hp.1 rfl) (eva_cons (ev_call (S := FS__law_form_text) l (eva_cons (ev_i2 rfl) eva_nil) hp.2 rfl) eva_nil)) (show (2 : Nat) ≤ sizeLine by decide)) (by simp; omega) rfl) (sl_ok (by simp [TL.joinL]; omega))) (ev_lit lit_cl) (sl_ok (by simp [TL.joinL]; omega))) ?_
    show (.ok (.str (S (partL (.cho u l)))) : Except Str D) = _
    simp [partL, TL.joinL]
  | wei f =>
    have h1 := form_len hp
    refine s_ifF (ev_wt rfl w_wc) ?_
    apply s_next
    refine s_ifT (ev_wt rfl w_ww) ?_
    refine s_ret (ev_cat (ev_cat (ev_lit lit_op) (ev_call (S := FS__law_form_text) f (eva_cons (ev_i1 rfl) eva_nil) hp rfl) (sl_ok (by simp; omega))) (ev_lit lit_cl) (sl_ok (by simp; omega))) ?_
    rfl
  | pow r =>
    have h1 := rat_len hp
    refine s_ifF (ev_wt rfl w_pc) ?_
    apply s_next
    refine s_ifF (ev_wt rfl w_pw) ?_
    apply s_next
    refine e_ret (ev_cat (b := [93, 94, 107]) (ev_cat (ev_lit lit_br) (ev_call (S := FS__law_ratio_text) r (eva_cons (ev_i1 rfl) eva_nil) ⟨hp.1, hp.2, hr⟩ rfl) (sl_ok (by simp; omega))) (ev_op (ev_lst (eva_cons ev_c (eva_cons ev_c eva_nil)) (show (2 : Nat) ≤ sizeLine by decide)) (ev_cb (eva_cons (ev_op (r := .bl false) (ev_word rfl) ev_c fun P hP => by
      show P (.bl (decide (wordP (.pow r) = "growth")))
      rw [w_pg]; exact hP) eva_nil) fun P hP => hP) fun P hP => ⟨_, at_0, by rw [lit_rk]; exact hP⟩) (sl_ok (by simp; omega))) ?_
    rfl
  | gro r =>
    have h1 := rat_len hp
    refine s_ifF (ev_wt rfl w_gc) ?_
    apply s_next
    refine s_ifF (ev_wt rfl w_gw) ?_
    apply s_next
    refine e_ret (ev_cat (b := [93, 94, 110]) (ev_cat (ev_lit lit_br) (ev_call (S := FS__law_ratio_text) r (eva_cons (ev_i1 rfl) eva_nil) ⟨hp.1, hp.2, hr⟩ rfl) (sl_ok (by simp; omega))) (ev_op (ev_lst (eva_cons ev_c (eva_cons ev_c eva_nil)) (show (2 : Nat) ≤ sizeLine by decide)) (ev_cb (eva_cons (ev_op (r := .bl true) (ev_word rfl) ev_c fun P hP => by
      show P (.bl (decide (wordP (.gro r) = "growth")))
      rw [w_gg]; exact hP) eva_nil) fun P hP => hP) fun P hP => ⟨_, at_1, by rw [lit_rn]; exact hP⟩) (sl_ok (by simp; omega))) ?_
    rfl
def N_show_term : List Str := ["term", "part"]
def d_show_term : DTS :=
  (dRet (dBM joinD (dC (.str " * ")) (dCons (dLc (dItL (dMeth "Term" "told" FS_Term_told (dVar 0) dNilA)) (dgName 1) dYes (dCall FS_show_part (dCons (dVar 1) dNil)) [1]) dNil)))
def termL (ps : List Part) : List Nat := TL.joinL [32, 42, 32] (ps.map partL)
def FS_show_term : FS := { α := List Part, args := fun ps => [termI ps], pre := fun ps => ps.length ≤ 6 ∧ ∀ p ∈ ps, PSm p, out := fun ps => .ok (.str (S (termL ps))) }
theorem hm_show_term : ∀ a, FS_show_term.pre a → d_show_term (DDof false (FS_show_term.out a)) (dstart N_show_term (FS_show_term.args a)) := by
  intro (ps : List Part) hh
  obtain ⟨hl, hp⟩ : ps.length ≤ 6 ∧ ∀ p ∈ ps, PSm p := hh
  unfold d_show_term FS_show_term N_show_term
  dsimp only [dstart, istart, List.map_cons, List.map_nil, List.length_cons, List.length_nil, Nat.reduceAdd, Nat.reduceSub, List.replicate_succ, List.replicate_zero, List.cons_append, List.nil_append, List.tail_cons]
  have hsum := sum_le (ws := ps.map partL) (B := 2100) fun w m => by
    obtain ⟨p, hp', rfl⟩ := List.mem_map.mp m
    exact part_len (hp p hp')
  have lc : Ev (dLc (dItL (dMeth "Term" "told" FS_Term_told (dVar 0) dNilA)) (dgName 1) dYes (dCall FS_show_part (dCons (dVar 1) dNil)) [1]) [.sh (termI ps), .em] (.lst (ps.map fun p => .str (S (partL p)))) [.sh (termI ps), .em] := by
    refine ev_lczM ps pD (fun p => .str (S (partL p))) (fun Q E h => ?_) (sl_ok (by omega)) fun p m Q' k => ?_
    · refine (ev_meth (C := "Term") (fs := [("made", .lst (ps.map partI)), ("words", .lst (ps.map pD))]) (S := FS_Term_told) (ds := []) (ev_vari rfl) (by rfl) (fun Q E h => h) ps rfl trivial rfl) _ _ ?_
      exact h
    · exact (ev_call (S := FS_show_part) p (eva_cons (ev_vari rfl) eva_nil) (hp p m) rfl) _ _ (k _ rfl)
  refine e_ret (ev_join (ys := ps.map partL) (ev_lit lit_star) ?_ ?_ rfl) rfl
  · rw [List.map_map]
    exact lc
  · have : (ps.map partL).length * 2100 ≤ 6 * 2100 := Nat.mul_le_mul_right _ (by simpa using hl)
    have h3 : (ps.map partL).length ≤ 6 := by simpa using hl
    simp at *
    omega
end T57

end

section
namespace T57
open PySem PySem.Spec PyProof.Rows L2 DL
def dig (c : Nat) : Bool := decide (48 ≤ c ∧ c ≤ 57)
def figs (t : List Nat) : List Nat := if t.take 1 = [45] then t.drop 1 else t
def valT (t : List Nat) : Int := if t.take 1 = [45] then -(NumText.digitsVal (t.drop 1) : Nat) else (NumText.digitsVal t : Nat)
def numOfT (t : List Nat) : Option Int := if figs t = [] ∨ 60 < (figs t).length ∨ (figs t).all dig = false ∨ ((figs t).head? = some 48 ∧ t ≠ [48]) then none else some (valT t)
def optI : Option Int → D
  | none => .non
  | some i => .int i
def Short (t : List Nat) : Prop := t.length ≤ 1000000
def N_number_of : List Str := ["text", "figures", "sign"]
def d_number_of : DTS :=
  (dSeq (dSet 1 (dIf (dTest (dOp eqD (dSl slD (dBor 0) dNoPart (dPart (dC (.int 1)))) (dC (.str "-")))) (dSl slD (dBor 0) (dPart (dC (.int 1))) dNoPart) (dVar 0)))
  (dSeq (dIfS (dOrT (dTest (dOp eqD (dBor 1) (dC (.str "")))) (dTest (dOp gtD (dCB lenD (dCons (dBor 1) dNil)) (dC (.int 60))))) (dRet (dC .non)) dNext)
  (dSeq (dFor (dItS (dVar 1)) (dgName 2) (dIfS (dTest (dOp notInSD (dBor 2) (dC (.str "0123456789")))) (dRet (dC .non)) dNext))
  (dSeq (dIfS (dAndT (dTest (dOp eqD (dOp ixD (dBor 1) (dC (.int 0))) (dC (.str "0")))) (dTest (dOp neD (dBor 0) (dC (.str "0"))))) (dRet (dC .non)) dNext)
  (dRet (dCB intD (dCons (dBor 0) dNil)))))))
def FS_number_of : FS := { α := List Nat, args := fun t => [.str (S t)], pre := Short, out := fun t => .ok (optI (numOfT t)) }
theorem lit_minus : ("-" : Str) = S [45] := by decide +kernel
theorem lit_figs : ("0123456789" : Str) = S [48, 49, 50, 51, 52, 53, 54, 55, 56, 57] := by decide +kernel
theorem ev_to1 {ρ : DEnv} {t : DTE} {a : List Nat} (h : Ev t ρ (.str (S a)) ρ) (hl : Short a) : Ev (dSl slD t dNoPart (dPart (dC (.int 1)))) ρ (.str (S (a.take 1))) ρ := fun Q E k => h _ _ (by
  show (S a).length ≤ sizeLine ∧ Q (.str (cutS (S a) none (some 1))) ρ
  rw [C8.cutS_slice, SX.slice_to (by decide), SX.S_len]
  exact ⟨sl_ok (Nat.le_trans hl (by decide)), k⟩)
theorem ev_from1 {ρ : DEnv} {t : DTE} {a : List Nat} (h : Ev t ρ (.str (S a)) ρ) (hl : Short a) : Ev (dSl slD t (dPart (dC (.int 1))) dNoPart) ρ (.str (S (a.drop 1))) ρ := fun Q E k => h _ _ (by
  show (S a).length ≤ sizeLine ∧ Q (.str (cutS (S a) (some 1) none)) ρ
  rw [C8.cutS_slice, SX.slice_from (by decide), SX.S_len]
  exact ⟨sl_ok (Nat.le_trans hl (by decide)), k⟩)
theorem ev_len {ρ : DEnv} {t : DTE} {a : List Nat} (h : Ev t ρ (.str (S a)) ρ) (hl : Short a) : Ev (dCB lenD (dCons t dNil)) ρ (.int (a.length : Int)) ρ := ev_cb (eva_cons h eva_nil) fun P hP => by
  show (S a).length ≤ sizeLine ∧ P (.int ((S a).length : Int))
  rw [SX.S_len]
  exact ⟨sl_ok (Nat.le_trans hl (by decide)), hP⟩
theorem signs_S (a : List Nat) : signsD (S a) = a.map fun c => D.str (S [c]) := rfl
theorem mem_figs {c : Nat} : decide (c ∈ (S [48, 49, 50, 51, 52, 53, 54, 55, 56, 57]).cps.toList) = dig c := by
  unfold dig
  apply decide_eq_decide.mpr
  simp [S]
  omega
theorem evt_nes {ρ : DEnv} {t u : DTE} {a b : List Nat} (h : Ev t ρ (.str (S a)) ρ) (h2 : Ev u ρ (.str (S b)) ρ) : EvT (dTest (dOp neD t u)) ρ (!decide (a = b)) ρ := evt_test (ev_op h h2 fun P hP => by
  show P (.bl (!decide (S a = S b)))
  rw [show decide (S a = S b) = decide (a = b) from decide_eq_decide.mpr S_eq]
  exact hP)
theorem figs_short {t : List Nat} (h : Short t) : Short (figs t) := by
  unfold figs
  split
  · have : (t.drop 1).length ≤ t.length := by simp
    exact Nat.le_trans this h
  · exact h
theorem int_text {t : List Nat} (h1 : figs t ≠ []) (h2 : (figs t).length ≤ 60) (h3 : (figs t).all dig = true) : intText? (S t) = some (valT t) ∧ (S t).length ≤ 640 := by
  have hd : NumText.AllDigits (figs t) := fun c m => by
    have := List.all_eq_true.mp h3 c m
    simpa [dig] using this
  unfold figs at h1 h2 hd
  unfold valT
  by_cases c : t.take 1 = [45]
  · rw [if_pos c] at h1 h2 hd ⊢
    have e : t = 45 :: t.drop 1 := by
      cases t with
      | nil => simp at c
      | cons x r => simp at c; simp [c]
    have hl : (S t).length ≤ 640 := by
      rw [SX.S_len, e]; simp at h2 ⊢; omega
    exact ⟨PySem.intText_neg (x := S t) e hd h1 (by omega), hl⟩
  · rw [if_neg c] at h1 h2 hd ⊢
    have hl : (S t).length ≤ 640 := by rw [SX.S_len]; omega
    exact ⟨PySem.intText_digits (x := S t) hd h1 (by omega), hl⟩
theorem hm_number_of : ∀ a, FS_number_of.pre a → d_number_of (DDof false (FS_number_of.out a)) (dstart N_number_of (FS_number_of.args a)) := by
  intro (t : List Nat) (ht : Short t)
  unfold d_number_of FS_number_of N_number_of
  dsimp only [dstart, istart, List.map_cons, List.map_nil, List.length_cons, List.length_nil, Nat.reduceAdd, Nat.reduceSub, List.replicate_succ, List.replicate_zero, List.cons_append, List.nil_append, List.tail_cons]
  have hf := figs_short ht
  refine s_set (d := .str (S (figs t))) (ev_if (evt_eqs (ev_to1 (ev_bori rfl) ht) (ev_lit lit_minus)) ?_) ?_
  · unfold figs
    by_cases c : t.take 1 = [45]
    · rw [decide_eq_true c, if_pos rfl, if_pos c]
      exact ev_from1 (ev_bori rfl) ht
    · rw [decide_eq_false c, if_neg Bool.false_ne_true, if_neg c]
      exact ev_vari rfl
  refine s_if (evt_or (evt_eqs (ev_bori rfl) (ev_lit lit_empty)) fun _ => evt_gti (ev_len (ev_bori rfl) hf) ev_c) ?_
  have hrt : ∀ r : Option Int, numOfT t = r → (DDof false (.ok (optI (numOfT t)))).rt (optI r) := fun r h => by rw [← h]
  by_cases c : figs t = [] ∨ 60 < (figs t).length
  · have e : (decide (figs t = []) || decide ((60 : Int) < ((figs t).length : Int))) = true := by
      rcases c with c | c
      · rw [decide_eq_true c]; rfl
      · rw [decide_eq_true (show (60 : Int) < ((figs t).length : Int) by omega)]; simp
    rw [e, if_pos rfl]
    refine s_ret ev_c (hrt none ?_)
    unfold numOfT
    rw [if_pos (by rcases c with c | c; exact .inl c; exact .inr (.inl c))]
  · have c1 : figs t ≠ [] := fun h => c (.inl h)
    have c2 : ¬ 60 < (figs t).length := fun h => c (.inr h)
    have e : (decide (figs t = []) || decide ((60 : Int) < ((figs t).length : Int))) = false := by
      rw [decide_eq_false c1, decide_eq_false (show ¬ (60 : Int) < ((figs t).length : Int) by omega)]; rfl
    rw [e, if_neg Bool.false_ne_true]
    apply s_next
    refine for_i ((figs t).map fun c => D.str (S [c])) (fun i ρ => (∃ s, ρ = [.sh (.str (S t)), .sh (.str (S (figs t))), s]) ∧ ((figs t).take i).all dig = true) (fun Q h => ?_) ⟨⟨_, rfl⟩, rfl⟩ ?_ ?_
    · simp only [dSeq, dNext, dSet, dOwn, dRet, dRetN, dIfS, dDrop, dAsg, dPar, dAug, dSetIx, dApp, dClear, dRaise, dTest, dTru, truD, dAndT, dOrT, dNotT, dIf, dAndV, dOrV, dNotV, dOp, dUn, dCB, dBM, dNilA, dVar, dBor, dGive, dC, dCons, dNil, dTup, dLst, dSl, dPart, dNoPart, dIsi, nth, dstart, istart, dFld, dFldSet, putD, dgName, dgTup, dgCons, dgNil, dItL, dItT, dItS, dItR1, dItR2, dItE, dItZ, dYes, dMeth, dOr, Ends2, addD, iaddD, imulD, subD, mulD, fdivD, modD, powD, cmpD, eqD, neD, isD, isNotD, negD, absD, lenD, max2D, min2D, DL.intD, strD, tupleD, listD, catD, repD, slD, slDL, ixD, inSD, notInSD, startswithD, endswithD, findD, isdigitD, splitD, partitionD, joinD, lstripD, List.map_cons, List.map_nil, List.length_cons, List.length_nil, List.cons_append, List.nil_append, List.set_cons_zero, List.set_cons_succ, Nat.reduceAdd, Nat.reduceSub, List.replicate_succ, List.replicate_zero, List.tail_cons, Bool.false_eq_true, if_true, if_false, ite_true, ite_false, reduceIte, true_and, and_true, Bool.not_true, Bool.not_false, decide_eq_true_eq, Bool.not_eq_true', decide_eq_false_iff_not, ne_eq, reduceCtorEq, not_false_eq_true, DL.MulOk, at_0, at_1, at_2, Option.some.injEq, exists_eq_left, exists_eq_left', Int.reduceAdd, Int.reduceSub, Int.reduceMul, Int.reduceNeg, Int.reduceToNat, Int.reduceEq, Int.reduceLT, Int.reduceLE, Nat.reduceLeDiff, Nat.reduceLT, Nat.reduceEqDiff, sizeLine_eq]
      exact h
    · rintro i d ρ hd ⟨⟨s, rfl⟩, ha⟩
      rw [List.getElem?_map] at hd
      cases hx : (figs t)[i]? with
      | none => rw [hx] at hd; cases hd
      | some x =>
        rw [hx] at hd
        cases hd
        apply g_name
        apply toSeq
        refine s_if (b := !dig x) (evt_test (ev_op (ev_bori rfl) ev_c fun P hP => ⟨x, rfl, by rw [lit_figs, mem_figs]; exact hP⟩)) ?_
        cases hg : dig x with
        | true =>
          refine ⟨⟨_, rfl⟩, ?_⟩
          rw [List.take_succ, hx]
          simp [ha, hg]
        | false =>
          refine s_ret ev_c (hrt none ?_)
          unfold numOfT
          rw [if_pos (.inr (.inr (.inl (List.all_eq_false.mpr ⟨x, List.mem_of_getElem? hx, by rw [hg]; exact Bool.false_ne_true⟩))))]
    · rintro ρ ⟨⟨s, rfl⟩, ha⟩
      dsimp only
      rw [List.length_map, List.take_length] at ha
      obtain ⟨x, r, hxr⟩ : ∃ x r, figs t = x :: r := by
        cases e : figs t with
        | nil => exact absurd e c1
        | cons x r => exact ⟨x, r, rfl⟩
      have hix : Ev (dOp ixD (dBor 1) (dC (.int 0))) [.sh (.str (S t)), .sh (.str (S (figs t))), s] (.str (S [x])) [.sh (.str (S t)), .sh (.str (S (figs t))), s] := ev_op (ev_bori rfl) ev_c fun P hP => by
        refine ⟨x, ?_, ?_, hP⟩
        · rw [SX.S_len]; exact sl_ok (Nat.le_trans hf (by decide))
        · show L2.atI (figs t) 0 = some x
          rw [hxr]; exact at_0
      refine s_if (evt_and (evt_eqs hix (ev_lit lit_0)) fun _ => evt_nes (ev_bori rfl) (ev_lit lit_0)) ?_
      have hh : (figs t).head? = some x := by rw [hxr]; rfl
      by_cases c3 : x = 48 ∧ t ≠ [48]
      · have e : (decide ([x] = [48]) && !decide (t = [48])) = true := by simp [c3.1, c3.2]
        rw [e, if_pos rfl]
        refine s_ret ev_c (hrt none ?_)
        unfold numOfT
        rw [if_pos (.inr (.inr (.inr ⟨by rw [hh, c3.1], c3.2⟩)))]
      · have e : (decide ([x] = [48]) && !decide (t = [48])) = false := by
          by_cases h1 : x = 48
          · have h2 : t = [48] := Classical.byContradiction fun h => c3 ⟨h1, h⟩
            simp [h2]
          · simp [h1]
        rw [e, if_neg Bool.false_ne_true]
        apply s_next
        obtain ⟨hi, hl⟩ := int_text c1 (by omega) ha
        refine e_ret (ev_cb (eva_cons (ev_bori rfl) eva_nil) fun P hP => ⟨_, hi, hl, hP⟩) (hrt (some (valT t)) ?_)
        unfold numOfT
        rw [if_neg]
        rintro (h | h | h | ⟨h, h'⟩)
        · exact c1 h
        · exact c2 h
        · rw [ha] at h; cases h
        · rw [hh] at h; exact c3 ⟨Option.some.inj h, h'⟩
def N_divisor : List Str := ["one", "other", "rest"]
def d_divisor : DTS :=
  (dSeq (dSet 0 (dCB absD (dCons (dBor 0) dNil)))
  (dSeq (dSet 1 (dCB absD (dCons (dBor 1) dNil)))
  (dSeq (dWhile (dTest (dOp gtD (dBor 1) (dC (.int 0)))) (dSeq (dSet 2 (dOp modD (dBor 0) (dBor 1)))
  (dSeq (dSet 0 (dVar 1))
  (dSet 1 (dVar 2)))))
  (dRet (dVar 0)))))
def FS_divisor : FS := { α := Int × Int, args := fun a => [.int a.1, .int a.2], pre := fun _ => True, out := fun a => .ok (.int (gcdI a.1 a.2)) }
theorem hm_divisor : ∀ a, FS_divisor.pre a → d_divisor (DDof false (FS_divisor.out a)) (dstart N_divisor (FS_divisor.args a)) := by
  rintro ⟨a, b⟩ _
  unfold d_divisor FS_divisor N_divisor gcdI
  simp only [dSeq, dNext, dSet, dOwn, dRet, dRetN, dIfS, dDrop, dAsg, dPar, dAug, dSetIx, dApp, dClear, dRaise, dTest, dTru, truD, dAndT, dOrT, dNotT, dIf, dAndV, dOrV, dNotV, dOp, dUn, dCB, dBM, dNilA, dVar, dBor, dGive, dC, dCons, dNil, dTup, dLst, dSl, dPart, dNoPart, dIsi, nth, dstart, istart, dFld, dFldSet, putD, dgName, dgTup, dgCons, dgNil, dItL, dItT, dItS, dItR1, dItR2, dItE, dItZ, dYes, dMeth, dOr, Ends2, addD, iaddD, imulD, subD, mulD, fdivD, modD, powD, cmpD, eqD, neD, isD, isNotD, negD, absD, lenD, max2D, min2D, DL.intD, strD, tupleD, listD, catD, repD, slD, slDL, ixD, inSD, notInSD, startswithD, endswithD, findD, isdigitD, splitD, partitionD, joinD, lstripD, List.map_cons, List.map_nil, List.length_cons, List.length_nil, List.cons_append, List.nil_append, List.set_cons_zero, List.set_cons_succ, Nat.reduceAdd, Nat.reduceSub, List.replicate_succ, List.replicate_zero, List.tail_cons, Bool.false_eq_true, if_true, if_false, ite_true, ite_false, reduceIte, true_and, and_true, Bool.not_true, Bool.not_false, decide_eq_true_eq, Bool.not_eq_true', decide_eq_false_iff_not, ne_eq, reduceCtorEq, not_false_eq_true, DL.MulOk, at_0, at_1, at_2, Option.some.injEq, exists_eq_left, exists_eq_left', Int.reduceAdd, Int.reduceSub, Int.reduceMul, Int.reduceNeg, Int.reduceToNat, Int.reduceEq, Int.reduceLT, Int.reduceLE, Nat.reduceLeDiff, Nat.reduceLT, Nat.reduceEqDiff, sizeLine_eq, abs_nat]
  refine while_intro (fun ρ => ∃ (x y : Nat) (s : Sl), ρ = [.sh (.int x), .sh (.int y), s] ∧ Nat.gcd x y = Nat.gcd a.natAbs b.natAbs) (fun ρ => match nth ρ 1 with | .sh (.int x) => x.toNat | _ => 0) ⟨_, _, _, rfl, rfl⟩ ?_
  rintro ρ ⟨x, y, s, rfl, h⟩
  have key : ((x : Int).fmod y) = ((x % y : Nat) : Int) := by rw [Int.fmod_eq_emod_of_nonneg _ (by omega)]; omega
  simp only [dSeq, dNext, dSet, dOwn, dRet, dRetN, dIfS, dDrop, dAsg, dPar, dAug, dSetIx, dApp, dClear, dRaise, dTest, dTru, truD, dAndT, dOrT, dNotT, dIf, dAndV, dOrV, dNotV, dOp, dUn, dCB, dBM, dNilA, dVar, dBor, dGive, dC, dCons, dNil, dTup, dLst, dSl, dPart, dNoPart, dIsi, nth, dstart, istart, dFld, dFldSet, putD, dgName, dgTup, dgCons, dgNil, dItL, dItT, dItS, dItR1, dItR2, dItE, dItZ, dYes, dMeth, dOr, Ends2, addD, iaddD, imulD, subD, mulD, fdivD, modD, powD, cmpD, eqD, neD, isD, isNotD, negD, absD, lenD, max2D, min2D, DL.intD, strD, tupleD, listD, catD, repD, slD, slDL, ixD, inSD, notInSD, startswithD, endswithD, findD, isdigitD, splitD, partitionD, joinD, lstripD, List.map_cons, List.map_nil, List.length_cons, List.length_nil, List.cons_append, List.nil_append, List.set_cons_zero, List.set_cons_succ, Nat.reduceAdd, Nat.reduceSub, List.replicate_succ, List.replicate_zero, List.tail_cons, Bool.false_eq_true, if_true, if_false, ite_true, ite_false, reduceIte, true_and, and_true, Bool.not_true, Bool.not_false, decide_eq_true_eq, Bool.not_eq_true', decide_eq_false_iff_not, ne_eq, reduceCtorEq, not_false_eq_true, DL.MulOk, at_0, at_1, at_2, Option.some.injEq, exists_eq_left, exists_eq_left', Int.reduceAdd, Int.reduceSub, Int.reduceMul, Int.reduceNeg, Int.reduceToNat, Int.reduceEq, Int.reduceLT, Int.reduceLE, Nat.reduceLeDiff, Nat.reduceLT, Nat.reduceEqDiff, sizeLine_eq, key]
  split
  · rename_i hx
    have hx : y ≠ 0 := fun e => by omega
    refine w_step ?_
    simp only [dSeq, dNext, dSet, dOwn, dRet, dRetN, dIfS, dDrop, dAsg, dPar, dAug, dSetIx, dApp, dClear, dRaise, dTest, dTru, truD, dAndT, dOrT, dNotT, dIf, dAndV, dOrV, dNotV, dOp, dUn, dCB, dBM, dNilA, dVar, dBor, dGive, dC, dCons, dNil, dTup, dLst, dSl, dPart, dNoPart, dIsi, nth, dstart, istart, dFld, dFldSet, putD, dgName, dgTup, dgCons, dgNil, dItL, dItT, dItS, dItR1, dItR2, dItE, dItZ, dYes, dMeth, dOr, Ends2, addD, iaddD, imulD, subD, mulD, fdivD, modD, powD, cmpD, eqD, neD, isD, isNotD, negD, absD, lenD, max2D, min2D, DL.intD, strD, tupleD, listD, catD, repD, slD, slDL, ixD, inSD, notInSD, startswithD, endswithD, findD, isdigitD, splitD, partitionD, joinD, lstripD, List.map_cons, List.map_nil, List.length_cons, List.length_nil, List.cons_append, List.nil_append, List.set_cons_zero, List.set_cons_succ, Nat.reduceAdd, Nat.reduceSub, List.replicate_succ, List.replicate_zero, List.tail_cons, Bool.false_eq_true, if_true, if_false, ite_true, ite_false, reduceIte, true_and, and_true, Bool.not_true, Bool.not_false, decide_eq_true_eq, Bool.not_eq_true', decide_eq_false_iff_not, ne_eq, reduceCtorEq, not_false_eq_true, DL.MulOk, at_0, at_1, at_2, Option.some.injEq, exists_eq_left, exists_eq_left', Int.reduceAdd, Int.reduceSub, Int.reduceMul, Int.reduceNeg, Int.reduceToNat, Int.reduceEq, Int.reduceLT, Int.reduceLE, Nat.reduceLeDiff, Nat.reduceLT, Nat.reduceEqDiff, sizeLine_eq, key]
    refine ⟨by omega, ⟨y, x % y, _, rfl, ?_⟩, ?_⟩
    · rw [← h, Nat.gcd_comm x y, Nat.gcd_rec y x, Nat.gcd_comm]
    · exact Nat.mod_lt _ (Nat.pos_of_ne_zero hx)
  · rename_i hx
    have hx : y = 0 := by omega
    subst hx
    rw [← h, Nat.gcd_zero_right]
end T57

end

section
namespace T57
open PySem PySem.Spec PyProof.Rows L2 DL
/-! partition -/
def parT (b a : List Nat) : List Nat × List Nat × List Nat := match TL.par b [] a with
  | some (p, q) => (p, b, q)
  | none => (a, [], [])
theorem par_cat {b : List Nat} : ∀ {l acc p q : List Nat}, TL.par b acc l = some (p, q) → acc ++ l = p ++ b ++ q
  | [], acc, p, q, h => nomatch (show (none : Option (List Nat × List Nat)) = some (p, q) from h)
  | c :: r, acc, p, q, h => by
    cases e : TL.pre b (c :: r) with
    | true =>
      rw [TL.par_hit e] at h
      cases h
      have e2 : (c :: r).take b.length = b := by simpa [TL.pre] using e
      conv => lhs; rw [← List.take_append_drop b.length (c :: r), e2]
      simp
    | false =>
      rw [TL.par_miss e] at h
      have := par_cat h
      simpa using this
theorem parT_ok {a b : List Nat} (hb : b ≠ []) : Txt.partition (S a) (S b) = (S (parT b a).1, S (parT b a).2.1, S (parT b a).2.2) := by
  unfold parT
  cases e : TL.par b [] a with
  | none => exact SX.partition_none hb e
  | some pq => obtain ⟨p, q⟩ := pq; exact SX.partition_some hb e
theorem parT_len {a b : List Nat} : (parT b a).1.length ≤ a.length ∧ (parT b a).2.2.length ≤ a.length := by
  unfold parT
  cases e : TL.par b [] a with
  | none => simp
  | some pq =>
    obtain ⟨p, q⟩ := pq
    have := congrArg List.length (par_cat e)
    simp at this
    dsimp only
    omega
theorem ev_part {ρ : DEnv} {t u : DTE} {a b : List Nat} (h : Ev t ρ (.str (S a)) ρ) (h2 : Ev u ρ (.str (S b)) ρ) (hb : b ≠ []) (hl : Short a) : Ev (dBM partitionD t (dCons u dNil)) ρ (.tup [.str (S (parT b a).1), .str (S (parT b a).2.1), .str (S (parT b a).2.2)]) ρ := ev_bm h (eva_cons h2 eva_nil) fun P hP => by
  show ((S b).length == 0) = false ∧ (S a).length ≤ sizeLine ∧ P _
  rw [parT_ok hb, SX.S_len, SX.S_len]
  refine ⟨?_, sl_ok (Nat.le_trans hl (by decide)), hP⟩
  cases b with
  | nil => exact absurd rfl hb
  | cons c r => rfl
theorem evt_isNb {ρ : DEnv} {t : DTE} {d : D} {b : Bool} (h : Ev t ρ d ρ) (e : isNonD d = b) : EvT (dTest (dOp isD t (dC .non))) ρ b ρ := evt_test (ev_op h ev_c fun P hP => by
  show P (.bl (isNonD d))
  rw [e]; exact hP)
theorem ev_ifT {ρ : DEnv} {c : DTT} {a e : DTE} {d : D} (hc : EvT c ρ true ρ) (h : Ev a ρ d ρ) : Ev (dIf c a e) ρ d ρ := fun Q E k => hc _ _ (h _ _ k)
theorem ev_ifF {ρ : DEnv} {c : DTT} {a e : DTE} {d : D} (hc : EvT c ρ false ρ) (h : Ev e ρ d ρ) : Ev (dIf c a e) ρ d ρ := fun Q E k => hc _ _ (h _ _ k)
def Uni (t : List Nat) : Prop := ∀ c ∈ t, c < 0x110000
theorem uni_ok {l : List Nat} (h : Uni l) : PyData.strOk (S l) = true := by
  unfold PyData.strOk
  rw [Array.all_eq_true']
  intro c m
  exact decide_eq_true (h c (by simpa [S] using m))
theorem g_tup3 {i j k : Nat} {a b c : D} {ρ : DEnv} {P : DEnv → Prop} (h : P (((ρ.set i (.sh a)).set j (.sh b)).set k (.sh c))) : dgTup 3 (dgCons (dgName i) (dgCons (dgName j) (dgCons (dgName k) dgNil))) (.tup [a, b, c]) ρ P := ⟨rfl, rfl, h⟩
def N_ratio_of : List Str := ["text", "above", "line", "below", "top", "bottom"]
def d_ratio_of : DTS :=
  (dSeq (dAsg (dBM partitionD (dBor 0) (dCons (dC (.str "/")) dNil)) (dgTup 3 (dgCons (dgName 1) (dgCons (dgName 2) (dgCons (dgName 3) dgNil)))))
  (dSeq (dSet 4 (dCall FS_number_of (dCons (dVar 1) dNil)))
  (dSeq (dIfS (dOrT (dTest (dOp eqD (dBor 2) (dC (.str "")))) (dTest (dOp isD (dBor 4) (dC .non)))) (dRet (dIf (dTest (dOp isD (dBor 4) (dC .non))) (dC .non) (dTup (dCons (dVar 4) (dCons (dC (.int 1)) dNil))))) dNext)
  (dSeq (dSet 5 (dCall FS_number_of (dCons (dVar 3) dNil)))
  (dSeq (dIfS (dOrT (dTest (dOp isD (dBor 5) (dC .non))) (dOrT (dTest (dOp ltD (dBor 5) (dC (.int 2)))) (dTest (dOp neD (dCall FS_divisor (dCons (dVar 4) (dCons (dVar 5) dNil))) (dC (.int 1)))))) (dRet (dC .non)) dNext)
  (dRet (dTup (dCons (dVar 4) (dCons (dVar 5) dNil)))))))))
def ratOfT (t : List Nat) : Option (Int × Int) := match numOfT (parT [47] t).1 with
  | none => none
  | some top => if (parT [47] t).2.1 = [] then some (top, 1) else match numOfT (parT [47] t).2.2 with
    | none => none
    | some bot => if bot < 2 ∨ gcdI top bot ≠ 1 then none else some (top, bot)
def optR : Option (Int × Int) → D
  | none => .non
  | some r => rD r
def FS_ratio_of : FS := { α := List Nat, args := fun t => [.str (S t)], pre := Short, out := fun t => .ok (optR (ratOfT t)) }
theorem isN_I {o : Option Int} : isNonD (optI o) = o.isNone := by cases o <;> rfl
theorem evt_isN {ρ : DEnv} {t : DTE} {d : D} (h : Ev t ρ d ρ) : EvT (dTest (dOp isD t (dC .non))) ρ (isNonD d) ρ := evt_test (ev_op h ev_c fun P hP => hP)
theorem hm_ratio_of : ∀ a, FS_ratio_of.pre a → d_ratio_of (DDof false (FS_ratio_of.out a)) (dstart N_ratio_of (FS_ratio_of.args a)) := by
  intro (t : List Nat) (ht : Short t)
  unfold d_ratio_of FS_ratio_of N_ratio_of
  dsimp only [dstart, istart, List.map_cons, List.map_nil, List.length_cons, List.length_nil, Nat.reduceAdd, Nat.reduceSub, List.replicate_succ, List.replicate_zero, List.cons_append, List.nil_append, List.tail_cons]
  have hl := parT_len (a := t) (b := [47])
  have h1 : Short (parT [47] t).1 := Nat.le_trans hl.1 ht
  have h2 : Short (parT [47] t).2.2 := Nat.le_trans hl.2 ht
  refine s_asg (ev_part (ev_bori rfl) (ev_lit lit_slash) (by decide) ht) ?_
  apply g_tup3
  refine s_set (ev_call (S := FS_number_of) (parT [47] t).1 (eva_cons (ev_vari rfl) eva_nil) h1 rfl) ?_
  have hrt : ∀ r : Option (Int × Int), ratOfT t = r → (DDof false (.ok (optR (ratOfT t)))).rt (optR r) := fun r h => by rw [← h]
  refine s_if (evt_or (evt_eqs (ev_bori rfl) (ev_lit lit_empty)) fun _ => evt_isN (ev_bori rfl)) ?_
  rw [isN_I]
  cases e1 : numOfT (parT [47] t).1 with
  | none =>
    rw [show (decide ((parT [47] t).2.1 = []) || (none : Option Int).isNone) = true from by simp, if_pos rfl]
    refine s_ret (ev_ifT (evt_isNb (ev_bori rfl) rfl) ev_c) (hrt none ?_)
    unfold ratOfT; rw [e1]
  | some top =>
    by_cases c : (parT [47] t).2.1 = []
    · rw [decide_eq_true c, Bool.true_or, if_pos rfl]
      refine s_ret (ev_ifF (evt_isNb (ev_bori rfl) rfl) (ev_tup (eva_cons (ev_vari rfl) (eva_cons ev_c eva_nil)) (show (2 : Nat) ≤ sizeLine by decide))) (hrt (some (top, 1)) ?_)
      unfold ratOfT; rw [e1]; simp [c]
    · rw [decide_eq_false c, if_neg (by simp)]
      apply s_next
      refine s_set (ev_call (S := FS_number_of) (parT [47] t).2.2 (eva_cons (ev_vari rfl) eva_nil) h2 rfl) ?_
      cases e2 : numOfT (parT [47] t).2.2 with
      | none =>
        refine s_ifT (evt_or (b := true) (b2 := true) (evt_isNb (ev_bori rfl) rfl) (fun z => nomatch z)) ?_
        refine s_ret ev_c (hrt none ?_)
        unfold ratOfT; rw [e1]; simp [c, e2]
      | some bot =>
        refine s_if (evt_or (b := false) (evt_isNb (ev_bori rfl) rfl) fun _ => evt_or (evt_lti (ev_bori rfl) ev_c) fun _ => evt_nei (ev_call (S := FS_divisor) (top, bot) (eva_cons (ev_vari rfl) (eva_cons (ev_vari rfl) eva_nil)) trivial rfl) ev_c) ?_
        by_cases c2 : bot < 2 ∨ gcdI top bot ≠ 1
        · have e : (false || (decide (bot < 2) || !decide (gcdI (top, bot).1 (top, bot).2 = 1))) = true := by simpa using c2
          rw [e, if_pos rfl]
          refine s_ret ev_c (hrt none ?_)
          unfold ratOfT; rw [e1]; simp only [c, e2, if_false]; rw [if_pos c2]
        · have e : (false || (decide (bot < 2) || !decide (gcdI (top, bot).1 (top, bot).2 = 1))) = false := by
            have h1 : ¬ bot < 2 := fun h => c2 (.inl h)
            have h2 : gcdI top bot = 1 := Classical.byContradiction fun h => c2 (.inr h)
            simp [h1, h2]
          rw [e, if_neg Bool.false_ne_true]
          apply s_next
          refine e_ret (ev_tup (eva_cons (ev_vari rfl) (eva_cons (ev_vari rfl) eva_nil)) (show (2 : Nat) ≤ sizeLine by decide)) (hrt (some (top, bot)) ?_)
          unfold ratOfT; rw [e1]; simp only [c, e2, if_false]; rw [if_neg c2]
def N_pieces_of : List Str := ["text", "pieces", "sign"]
def d_pieces_of : DTS :=
  (dSeq (dOwn 1 (dLst dNil))
  (dSeq (dFor (dItS (dVar 0)) (dgName 2) (dSeq (dIfS (dOrT (dTest (dOp inSD (dBor 2) (dC (.str "+-")))) (dTest (dOp eqD (dBor 1) (dLst dNil)))) (dApp 1 (dC (.str ""))) dNext)
  (dSetIx 1 (dOp addD (dOp ixD (dBor 1) (dUn negD (dC (.int 1)))) (dBor 2)) (dUn negD (dC (.int 1))))))
  (dRet (dVar 1))))
def pst (ps : List (List Nat)) (c : Nat) : List (List Nat) := if c = 43 ∨ c = 45 ∨ ps = [] then ps ++ [[c]] else ps.dropLast ++ [ps.getLast?.getD [] ++ [c]]
def piecesT (t : List Nat) : List (List Nat) := t.foldl pst []
def FS_pieces_of : FS := { α := List Nat, args := fun t => [.str (S t)], pre := fun t => Short t ∧ Uni t, out := fun t => .ok (wD (piecesT t)) }
theorem lit_pm : ("+-" : Str) = S [43, 45] := by decide +kernel
theorem s_setIx {i j : Nat} {t k : DTE} {w : DTS} {DD : DEnds} {ρ : DEnv} {d : D} {z : Int} {ds : List D} (hn : nth ρ i = .ow (.lst ds)) (h : Ev t ρ d ρ) (hk : Ev k ρ (.int z) ρ) (hj : L2.ixN ds.length z = some j) (hw : w DD (ρ.set i (.ow (.lst (ds.set j d))))) : dSeq (dSetIx i t k) w DD ρ := h _ _ (by
  show (match nth ρ i with | .ow _ => _ | _ => _)
  rw [hn]
  refine hk _ _ ?_
  show (match D.int z, nth ρ i with | .int z, .ow (.lst ds) => _ | _, _ => _)
  rw [hn]
  exact ⟨j, hj, hw⟩)
theorem pst_len {ps : List (List Nat)} {c : Nat} : (pst ps c).length ≤ ps.length + 1 := by
  unfold pst
  split
  · simp
  · simp
theorem pst_tot {ps : List (List Nat)} {c : Nat} : (pst ps c).flatten = ps.flatten ++ [c] := by
  unfold pst
  split
  · simp
  · rename_i h
    have hne : ps ≠ [] := fun e => h (.inr (.inr e))
    rw [List.getLast?_eq_getLast hne]
    conv => rhs; rw [← List.dropLast_concat_getLast hne]
    simp
theorem set_last {α : Type} {xs : List α} {x y : α} : (xs ++ [x]).set xs.length y = xs ++ [y] := by simp
theorem pst_allA : ∀ (l : List Nat) (ps : List (List Nat)), (l.foldl pst ps).flatten = ps.flatten ++ l
  | [], ps => by simp
  | c :: r, ps => by
    rw [List.foldl_cons, pst_allA r, pst_tot]
    simp
theorem pst_all (l : List Nat) : (l.foldl pst []).flatten = l := by rw [pst_allA]; simp
theorem pst_neA : ∀ (l : List Nat) (ps : List (List Nat)), (∀ w ∈ ps, w ≠ []) → ∀ w ∈ l.foldl pst ps, w ≠ []
  | [], ps, h => h
  | c :: r, ps, h => by
    rw [List.foldl_cons]
    refine pst_neA r _ fun w hw => ?_
    unfold pst at hw
    split at hw
    · rcases List.mem_append.mp hw with hw | hw
      · exact h w hw
      · simp at hw; subst hw; simp
    · rcases List.mem_append.mp hw with hw | hw
      · exact h w ((List.dropLast_subset _ hw))
      · simp at hw; subst hw; simp
theorem pst_ne (l : List Nat) : ∀ w ∈ l.foldl pst [], w ≠ [] := pst_neA l [] (fun w m => nomatch m)
theorem pst_lenB : ∀ (l : List Nat) (ps : List (List Nat)), (l.foldl pst ps).length ≤ ps.length + l.length
  | [], ps => by simp
  | c :: r, ps => by
    rw [List.foldl_cons]
    have h1 := pst_lenB r (pst ps c)
    have h2 := pst_len (ps := ps) (c := c)
    simp
    omega
theorem pst_lenA (l : List Nat) : (l.foldl pst []).length ≤ l.length := by
  have := pst_lenB l []
  simpa using this
theorem hm_pieces_of : ∀ a, FS_pieces_of.pre a → d_pieces_of (DDof false (FS_pieces_of.out a)) (dstart N_pieces_of (FS_pieces_of.args a)) := by
  intro (t : List Nat) hh
  obtain ⟨ht, hu⟩ : Short t ∧ Uni t := hh
  unfold d_pieces_of FS_pieces_of N_pieces_of
  dsimp only [dstart, istart, List.map_cons, List.map_nil, List.length_cons, List.length_nil, Nat.reduceAdd, Nat.reduceSub, List.replicate_succ, List.replicate_zero, List.cons_append, List.nil_append, List.tail_cons]
  refine s_own (ev_lst eva_nil (Nat.zero_le _)) ?_
  refine for_i (t.map fun c => D.str (S [c])) (fun i ρ => ∃ s, ρ = [.sh (.str (S t)), .ow (wD ((t.take i).foldl pst [])), s]) (fun Q h => ?_) ⟨_, rfl⟩ ?_ ?_
  · simp only [dSeq, dNext, dSet, dOwn, dRet, dRetN, dIfS, dDrop, dAsg, dPar, dAug, dSetIx, dApp, dClear, dRaise, dTest, dTru, truD, dAndT, dOrT, dNotT, dIf, dAndV, dOrV, dNotV, dOp, dUn, dCB, dBM, dNilA, dVar, dBor, dGive, dC, dCons, dNil, dTup, dLst, dSl, dPart, dNoPart, dIsi, nth, dstart, istart, dFld, dFldSet, putD, dgName, dgTup, dgCons, dgNil, dItL, dItT, dItS, dItR1, dItR2, dItE, dItZ, dYes, dMeth, dOr, Ends2, addD, iaddD, imulD, subD, mulD, fdivD, modD, powD, cmpD, eqD, neD, isD, isNotD, negD, absD, lenD, max2D, min2D, DL.intD, strD, tupleD, listD, catD, repD, slD, slDL, ixD, inSD, notInSD, startswithD, endswithD, findD, isdigitD, splitD, partitionD, joinD, lstripD, List.map_cons, List.map_nil, List.length_cons, List.length_nil, List.cons_append, List.nil_append, List.set_cons_zero, List.set_cons_succ, Nat.reduceAdd, Nat.reduceSub, List.replicate_succ, List.replicate_zero, List.tail_cons, Bool.false_eq_true, if_true, if_false, ite_true, ite_false, reduceIte, true_and, and_true, Bool.not_true, Bool.not_false, decide_eq_true_eq, Bool.not_eq_true', decide_eq_false_iff_not, ne_eq, reduceCtorEq, not_false_eq_true, DL.MulOk, at_0, at_1, at_2, Option.some.injEq, exists_eq_left, exists_eq_left', Int.reduceAdd, Int.reduceSub, Int.reduceMul, Int.reduceNeg, Int.reduceToNat, Int.reduceEq, Int.reduceLT, Int.reduceLE, Nat.reduceLeDiff, Nat.reduceLT, Nat.reduceEqDiff, sizeLine_eq]
    exact h
  · rintro i d ρ hd ⟨s, rfl⟩
    rw [List.getElem?_map] at hd
    cases hx : t[i]? with
    | none => rw [hx] at hd; cases hd
    | some c =>
      rw [hx] at hd
      cases hd
      have hi : i < t.length := (List.getElem?_eq_some_iff.mp hx).1
      have hfold : (t.take (i + 1)).foldl pst [] = pst ((t.take i).foldl pst []) c := by
        rw [List.take_succ, hx]
        simp
      rw [hfold]
      have htot := pst_all (t.take i)
      have hps : ∀ w ∈ (t.take i).foldl pst [], w ≠ [] := pst_ne (t.take i)
      have hlen : (t.take i).length ≤ t.length := by simp; omega
      have hlp := pst_lenA (t.take i)
      generalize (t.take i).foldl pst [] = ps at htot hps hlp ⊢
      have hps2 : ps.length < sizeLine := by
        rw [sizeLine_eq]
        have : t.length ≤ 1000000 := ht
        omega
      apply g_name
      have hmem : Ev (dBor 2) [.sh (.str (S t)), .ow (wD ps), .sh (.str (S [c]))] (.str (S [c])) [.sh (.str (S t)), .ow (wD ps), .sh (.str (S [c]))] := ev_bori rfl
      have fin : ∀ qs : List (List Nat), ∀ q : List Nat, pst ps c = qs ++ [q ++ [c]] → q.length ≤ t.length → qs.length < sizeLine → dSetIx 1 (dOp addD (dOp ixD (dBor 1) (dUn negD (dC (.int 1)))) (dBor 2)) (dUn negD (dC (.int 1))) { nx := fun ρ => ∃ s, ρ = [.sh (.str (S t)), .ow (wD (pst ps c)), s], rt := fun d => (.ok (wD (piecesT t)) : Except Str D) = .ok d, ex := fun c _ => (.ok (wD (piecesT t)) : Except Str D) = .error c, bk := dRet (dVar 1) (DDof false (.ok (wD (piecesT t)))), ct := fun ρ => ∃ s, ρ = [.sh (.str (S t)), .ow (wD (pst ps c)), s] } [.sh (.str (S t)), .ow (wD (qs ++ [q])), .sh (.str (S [c]))] := by
        intro qs q hq hql hqs
        apply toSeq
        have hlast : L2.atI ((qs ++ [q]).map fun w => D.str (S w)) (-1) = some (.str (S q)) := by
          rw [at_last (by simp)]
          simp
        refine s_setIx (z := -1) (j := qs.length) rfl (ev_cat (a := q) (ev_op (ev_borO rfl) (fun Q E h => h) fun P hP => ⟨_, hlast, hP⟩) (ev_bori rfl) (sl_ok (by
          have : t.length ≤ 1000000 := ht
          simp; omega))) (fun Q E h => h) ?_ ?_
        · rw [ixN_last (by simp)]
          simp
        · refine ⟨.sh (.str (S [c])), ?_⟩
          rw [hq]
          unfold wD
          simp
      refine s_if (b := decide (c = 43 ∨ c = 45) || ps.isEmpty) (evt_or (evt_test (ev_op (ev_bori rfl) ev_c fun P hP => ⟨c, rfl, ?_⟩)) fun _ => evt_test (ev_op (ev_borO rfl) (ev_lst eva_nil (Nat.zero_le _)) fun P hP => ?_)) ?_
      · rw [lit_pm]
        have e : decide (c ∈ (S [43, 45]).cps.toList) = decide (c = 43 ∨ c = 45) := by
          apply decide_eq_decide.mpr
          simp [S]
        rw [e]; exact hP
      · refine eq_lst (okN.ok (n := 3) (okN_lst fun d m => ?_)) (okN.ok (n := 3) (okN_lst fun d m => nomatch m)) (eqv_nil.trans ?_) hP
        · obtain ⟨w, hw, rfl⟩ := List.mem_map.mp m
          refine okN_str (uni_ok fun x hx => hu x ?_)
          have : x ∈ ps.flatten := List.mem_flatten.mpr ⟨w, hw, hx⟩
          rw [htot] at this
          exact List.mem_of_mem_take this
        · cases ps <;> rfl
      · by_cases hc : c = 43 ∨ c = 45 ∨ ps = []
        · have e : (decide (c = 43 ∨ c = 45) || ps.isEmpty) = true := by
            rcases hc with h | h | h
            · simp [h]
            · simp [h]
            · simp [h]
          rw [e, if_pos rfl]
          refine s_app (ds := ps.map fun w => D.str (S w)) rfl (by simpa using hps2) (ev_lit lit_empty) ?_
          have := fin ps [] (by unfold pst; rw [if_pos hc]; rfl) (Nat.zero_le _) hps2
          unfold wD at this ⊢
          simpa using this
        · have e : (decide (c = 43 ∨ c = 45) || ps.isEmpty) = false := by
            have h1 : ¬ (c = 43 ∨ c = 45) := fun h => hc (by rcases h with h | h; exact .inl h; exact .inr (.inl h))
            have h2 : ps ≠ [] := fun h => hc (.inr (.inr h))
            rw [decide_eq_false h1]
            cases ps with
            | nil => exact absurd rfl h2
            | cons w r => rfl
          rw [e, if_neg Bool.false_ne_true]
          apply s_next
          have h2 : ps ≠ [] := fun h => hc (.inr (.inr h))
          have hp := List.dropLast_concat_getLast h2
          have := fin ps.dropLast (ps.getLast h2) (by unfold pst; rw [if_neg hc, List.getLast?_eq_getLast h2]; rfl) ?_ (by simp; omega)
          · rw [hp] at this
            exact this
          · have h5 : ps.flatten.length = ps.dropLast.flatten.length + (ps.getLast h2).length := by
              conv => lhs; rw [← hp]
              simp
            rw [htot] at h5
            omega
  · rintro ρ ⟨s, rfl⟩
    dsimp only
    rw [List.length_map, List.take_length]
    apply e_ret'
    · intro Q E h
      simp only [dSeq, dNext, dSet, dOwn, dRet, dRetN, dIfS, dDrop, dAsg, dPar, dAug, dSetIx, dApp, dClear, dRaise, dTest, dTru, truD, dAndT, dOrT, dNotT, dIf, dAndV, dOrV, dNotV, dOp, dUn, dCB, dBM, dNilA, dVar, dBor, dGive, dC, dCons, dNil, dTup, dLst, dSl, dPart, dNoPart, dIsi, nth, dstart, istart, dFld, dFldSet, putD, dgName, dgTup, dgCons, dgNil, dItL, dItT, dItS, dItR1, dItR2, dItE, dItZ, dYes, dMeth, dOr, Ends2, addD, iaddD, imulD, subD, mulD, fdivD, modD, powD, cmpD, eqD, neD, isD, isNotD, negD, absD, lenD, max2D, min2D, DL.intD, strD, tupleD, listD, catD, repD, slD, slDL, ixD, inSD, notInSD, startswithD, endswithD, findD, isdigitD, splitD, partitionD, joinD, lstripD, List.map_cons, List.map_nil, List.length_cons, List.length_nil, List.cons_append, List.nil_append, List.set_cons_zero, List.set_cons_succ, Nat.reduceAdd, Nat.reduceSub, List.replicate_succ, List.replicate_zero, List.tail_cons, Bool.false_eq_true, if_true, if_false, ite_true, ite_false, reduceIte, true_and, and_true, Bool.not_true, Bool.not_false, decide_eq_true_eq, Bool.not_eq_true', decide_eq_false_iff_not, ne_eq, reduceCtorEq, not_false_eq_true, DL.MulOk, at_0, at_1, at_2, Option.some.injEq, exists_eq_left, exists_eq_left', Int.reduceAdd, Int.reduceSub, Int.reduceMul, Int.reduceNeg, Int.reduceToNat, Int.reduceEq, Int.reduceLT, Int.reduceLE, Nat.reduceLeDiff, Nat.reduceLT, Nat.reduceEqDiff, sizeLine_eq]
      exact h
    · rfl
end T57

end

section
namespace T57
open PySem PySem.Spec PyProof.Rows L2 DL
def startL (a b : List Nat) : Bool := a.take b.length == b
def endL (a b : List Nat) : Bool := a.drop (a.length - b.length) == b
theorem start_S (a b : List Nat) : Txt.startswith (S a) (S b) = startL a b := by
  unfold Txt.startswith startL
  rw [StrLaws.subAt_eq, SX.S_len, SX.S_len]
  show (decide (0 + b.length ≤ a.length) && ((a.drop 0).take b.length == b)) = _
  rw [List.drop_zero]
  by_cases h : b.length ≤ a.length
  · simp [h]
  · have e : (a.take b.length == b) = false := by
      rw [beq_eq_false_iff_ne]
      intro z
      have := congrArg List.length z
      simp at this
      omega
    rw [e]; simp
theorem end_S (a b : List Nat) : Txt.endswith (S a) (S b) = endL a b := by
  unfold Txt.endswith endL
  rw [StrLaws.subAt_eq, SX.S_len, SX.S_len]
  show (decide (0 + b.length ≤ a.length) && ((a.drop (a.length - b.length)).take b.length == b)) = _
  by_cases h : b.length ≤ a.length
  · have e : (a.drop (a.length - b.length)).take b.length = a.drop (a.length - b.length) := List.take_of_length_le (by simp; omega)
    rw [e]; simp [h]
  · have e : (a.drop (a.length - b.length) == b) = false := by
      rw [beq_eq_false_iff_ne]
      intro z
      have := congrArg List.length z
      simp at this
      omega
    rw [e]
    simp
    omega
theorem ev_start {ρ : DEnv} {t u : DTE} {a b : List Nat} (h : Ev t ρ (.str (S a)) ρ) (h2 : Ev u ρ (.str (S b)) ρ) : EvT (dTru (dBM startswithD t (dCons u dNil))) ρ (startL a b) ρ := evt_tru (ev_bm h (eva_cons h2 eva_nil) fun P hP => by
  show P (.bl (Txt.startswith (S a) (S b)))
  rw [start_S]; exact hP)
theorem ev_end {ρ : DEnv} {t u : DTE} {a b : List Nat} (h : Ev t ρ (.str (S a)) ρ) (h2 : Ev u ρ (.str (S b)) ρ) : EvT (dTru (dBM endswithD t (dCons u dNil))) ρ (endL a b) ρ := evt_tru (ev_bm h (eva_cons h2 eva_nil) fun P hP => by
  show P (.bl (Txt.endswith (S a) (S b)))
  rw [end_S]; exact hP)
theorem endL_1 {a : List Nat} {c : Nat} (h : endL a [c] = true) : ∃ b, a = b ++ [c] := by
  unfold endL at h
  have e : a.drop (a.length - 1) = [c] := by simpa using h
  exact ⟨a.take (a.length - 1), by conv => lhs; rw [← List.take_append_drop (a.length - 1) a, e]⟩
/-! forms from texts -/
def nk (b : List Nat) : Bool := endL b [110] || endL b [107]
def bod (p : List Nat) : List Nat := if p.head? = some 43 then p.drop 1 else p
def plc (b : List Nat) : Nat := if nk b = true then (if endL b [110] = true then 0 else 1) else 2
def bod2 (b : List Nat) : List Nat := if nk b = true then (if b.take (b.length - 1) = [] ∨ b.take (b.length - 1) = [45] then b.take (b.length - 1) ++ [49] else b.take (b.length - 1)) else b
def addAt (f : Form) (k : Nat) (i : Int) : Form := match k with
  | 0 => ⟨f.n + i, f.k, f.c⟩
  | 1 => ⟨f.n, f.k + i, f.c⟩
  | _ => ⟨f.n, f.k, f.c + i⟩
def fGo : List (List Nat) → Form → Option Form
  | [], f => some f
  | p :: r, f => match numOfT (bod2 (bod p)) with
    | none => none
    | some i => fGo r (addAt f (plc (bod p)) i)
def formOfT (t : List Nat) : Option Form := match fGo (piecesT t) ⟨0, 0, 0⟩ with
  | none => none
  | some f => if formL f = t then some f else none
def optF : Option Form → D
  | none => .non
  | some f => fD f
def fL (f : Form) : D := .lst [.int f.n, .int f.k, .int f.c]
def N_form_of : List Str := ["text", "numbers", "piece", "body", "at", "number", "form"]
def d_form_of : DTS :=
  (dSeq (dOwn 1 (dLst (dCons (dC (.int 0)) (dCons (dC (.int 0)) (dCons (dC (.int 0)) dNil)))))
  (dSeq (dFor (dItL (dCall FS_pieces_of (dCons (dVar 0) dNil))) (dgName 2) (dSeq (dSet 3 (dIf (dTest (dOp eqD (dOp ixD (dBor 2) (dC (.int 0))) (dC (.str "+")))) (dSl slD (dBor 2) (dPart (dC (.int 1))) dNoPart) (dVar 2)))
  (dSeq (dSet 4 (dC (.int 2)))
  (dSeq (dIfS (dOrT (dTru (dBM endswithD (dBor 3) (dCons (dC (.str "n")) dNil))) (dTru (dBM endswithD (dBor 3) (dCons (dC (.str "k")) dNil)))) (dSeq (dSet 4 (dBM findD (dC (.str "nk")) (dCons (dOp ixD (dBor 3) (dUn negD (dC (.int 1)))) dNil)))
  (dSeq (dSet 3 (dSl slD (dBor 3) dNoPart (dPart (dUn negD (dC (.int 1))))))
  (dIfS (dOrT (dTest (dOp eqD (dBor 3) (dC (.str "")))) (dTest (dOp eqD (dBor 3) (dC (.str "-"))))) (dAug 3 iaddD (dC (.str "1"))) dNext))) dNext)
  (dSeq (dSet 5 (dCall FS_number_of (dCons (dVar 3) dNil)))
  (dSeq (dIfS (dTest (dOp isD (dBor 5) (dC .non))) (dRet (dC .non)) dNext)
  (dSetIx 1 (dOp addD (dOp ixD (dBor 1) (dBor 4)) (dBor 5)) (dBor 4))))))))
  (dSeq (dSet 6 (dCB tupleD (dCons (dBor 1) dNil)))
  (dRet (dIf (dTest (dOp eqD (dCall FS_show_form (dCons (dVar 6) dNil)) (dBor 0))) (dVar 6) (dC .non))))))
def FS_form_of : FS := { α := List Nat, args := fun t => [.str (S t)], pre := fun t => Short t ∧ Uni t, out := fun t => .ok (optF (formOfT t)) }
theorem dv_lt : ∀ (l : List Nat) (acc : Nat), (∀ c ∈ l, c ≤ 57) → l.foldl (fun acc c => acc * 10 + (c - 48)) acc < (acc + 1) * 10 ^ l.length
  | [], acc, _ => by simp
  | c :: r, acc, h => by
    rw [List.foldl_cons]
    have h1 := dv_lt r (acc * 10 + (c - 48)) fun x m => h x (List.mem_cons_of_mem _ m)
    have h2 := h c List.mem_cons_self
    rw [List.length_cons, Nat.pow_succ]
    refine Nat.lt_of_lt_of_le h1 ?_
    have h3 : (acc * 10 + (c - 48) + 1) * 10 ^ r.length ≤ ((acc + 1) * 10) * 10 ^ r.length := Nat.mul_le_mul_right _ (by omega)
    refine Nat.le_trans h3 (Nat.le_of_eq ?_)
    rw [Nat.mul_assoc, Nat.mul_comm 10]
theorem digitsVal_lt {l : List Nat} {k : Nat} (h : l.all dig = true) (hk : l.length ≤ k) : NumText.digitsVal l < 10 ^ k := by
  have h1 := dv_lt l 0 fun c m => by
    have := List.all_eq_true.mp h c m
    simp [dig] at this
    exact this.2
  rw [Nat.zero_add, Nat.one_mul] at h1
  exact Nat.lt_of_lt_of_le h1 (Nat.pow_le_pow_right (by decide) hk)
theorem valT_abs {t : List Nat} {i : Int} (h : numOfT t = some i) : i.natAbs < 10 ^ 60 := by
  unfold numOfT at h
  split at h
  · cases h
  · rename_i c
    have c1 : (figs t).length ≤ 60 := by
      refine Nat.le_of_not_lt fun z => c (.inr (.inl z))
    have c2 : (figs t).all dig = true := by
      cases e : (figs t).all dig with
      | true => rfl
      | false => exact absurd (.inr (.inr (.inl e))) c
    cases h
    have := digitsVal_lt c2 c1
    unfold valT
    unfold figs at this
    split
    · rename_i h; rw [if_pos h] at this; rw [Int.natAbs_neg, Int.natAbs_natCast]; exact this
    · rename_i h; rw [if_neg h] at this; rw [Int.natAbs_natCast]; exact this
def Bd (n : Nat) (f : Form) : Prop := f.n.natAbs ≤ n * 10 ^ 60 ∧ f.k.natAbs ≤ n * 10 ^ 60 ∧ f.c.natAbs ≤ n * 10 ^ 60
theorem addAt_bd {n : Nat} {f : Form} {k : Nat} {i : Int} (h : Bd n f) (hi : i.natAbs < 10 ^ 60) : Bd (n + 1) (addAt f k i) := by
  unfold Bd at h ⊢
  rw [Nat.add_mul, Nat.one_mul]
  generalize 10 ^ 60 = T at *
  generalize n * T = U at *
  obtain ⟨h1, h2, h3⟩ := h
  unfold addAt
  split <;> refine ⟨?_, ?_, ?_⟩ <;> dsimp only <;> omega
theorem bd_sm {n : Nat} {f : Form} (h : Bd n f) (hn : n ≤ 1000000) : FSm f := by
  have k : n * 10 ^ 60 ≤ 1000000 * 10 ^ 60 := Nat.mul_le_mul_right _ hn
  have k2 : 1000000 * 10 ^ 60 < 10 ^ 300 := by decide +kernel
  obtain ⟨h1, h2, h3⟩ := h
  have key : ∀ i : Int, i.natAbs ≤ n * 10 ^ 60 → Sm i := fun i hi => Nat.lt_of_le_of_lt (Nat.le_trans hi k) k2
  exact ⟨key _ h1, key _ h2, key _ h3⟩
theorem find_n : Txt.find (S [110, 107]) (S [110]) = 0 := by decide +kernel
theorem find_k : Txt.find (S [110, 107]) (S [107]) = 1 := by decide +kernel
theorem lit_nk : ("nk" : Str) = S [110, 107] := by decide +kernel
theorem plc_lt (b : List Nat) : plc b < 3 := by
  unfold plc
  split
  · split <;> decide
  · decide
theorem bod_len (p : List Nat) : (bod p).length ≤ p.length := by
  unfold bod
  split <;> simp
theorem bod2_len (b : List Nat) : (bod2 b).length ≤ b.length + 2 := by
  unfold bod2
  split
  · split
    · rename_i h
      rcases h with h | h <;> rw [h] <;> simp
    · simp; omega
  · omega
theorem fL_at {f : Form} {k : Nat} (h : k < 3) : L2.atI [D.int f.n, .int f.k, .int f.c] (k : Int) = some (.int (compI f k)) := at_f h
theorem fL_set {f : Form} {k : Nat} {i : Int} (h : k < 3) : [D.int f.n, .int f.k, .int f.c].set k (.int (compI f k + i)) = [.int (addAt f k i).n, .int (addAt f k i).k, .int (addAt f k i).c] := by
  match k, h with
  | 0, _ => rfl
  | 1, _ => rfl
  | 2, _ => rfl
theorem s_aug1 {w : DTS} {DD : DEnds} {ρ : DEnv} {i : Nat} {a b : List Nat} {t : DTE} (hn : nth ρ i = .sh (.str (S a))) (h : Ev t ρ (.str (S b)) ρ) (hl : a.length + b.length ≤ sizeLine) (k : w DD (ρ.set i (.sh (.str (S (a ++ b)))))) : dSeq (dAug i iaddD t) w DD ρ := s_aug hn h (by
  show (S a).length + (S b).length ≤ sizeLine ∧ w DD (ρ.set i (.sh (.str (S a ++ S b))))
  rw [SX.S_len, SX.S_len, SX.S_cat]
  exact ⟨hl, k⟩)
theorem hm_form_of : ∀ a, FS_form_of.pre a → d_form_of (DDof false (FS_form_of.out a)) (dstart N_form_of (FS_form_of.args a)) := by
  intro (t : List Nat) hh
  obtain ⟨ht, hu⟩ : Short t ∧ Uni t := hh
  unfold d_form_of FS_form_of N_form_of
  dsimp only [dstart, istart, List.map_cons, List.map_nil, List.length_cons, List.length_nil, Nat.reduceAdd, Nat.reduceSub, List.replicate_succ, List.replicate_zero, List.cons_append, List.nil_append, List.tail_cons]
  have hrt : ∀ r : Option Form, formOfT t = r → (DDof false (.ok (optF (formOfT t)))).rt (optF r) := fun r h => by rw [← h]
  refine s_own (ev_lst (eva_cons ev_c (eva_cons ev_c (eva_cons ev_c eva_nil))) (show (3 : Nat) ≤ sizeLine by decide)) ?_
  have hne : ∀ w ∈ piecesT t, w ≠ [] := pst_ne t
  have hfl : (piecesT t).flatten = t := pst_all t
  have hcount : (piecesT t).length ≤ t.length := pst_lenA t
  have hsh : ∀ w ∈ piecesT t, Short w := fun w m => by
    have : w.length ≤ (piecesT t).flatten.length := by
      obtain ⟨a, b, e⟩ := List.append_of_mem m
      rw [e]; simp; omega
    rw [hfl] at this
    exact Nat.le_trans this ht
  refine for_i ((piecesT t).map fun w => D.str (S w)) (fun i ρ => ∃ f s2 s3 s4 s5, ρ = [.sh (.str (S t)), .ow (fL f), s2, s3, s4, s5, .em] ∧ fGo (piecesT t) ⟨0, 0, 0⟩ = fGo ((piecesT t).drop i) f ∧ Bd i f) (fun Q h => ?_) ⟨⟨0, 0, 0⟩, _, _, _, _, rfl, rfl, by unfold Bd; simp⟩ ?_ ?_
  · exact ev_call (S := FS_pieces_of) t (eva_cons (ev_vari rfl) eva_nil) ⟨ht, hu⟩ rfl _ _ h
  · rintro i d ρ hd ⟨f, s2, s3, s4, s5, rfl, hgo, hbd⟩
    rw [List.getElem?_map] at hd
    cases hx : (piecesT t)[i]? with
    | none => rw [hx] at hd; cases hd
    | some p =>
      rw [hx] at hd
      cases hd
      have hi : i < (piecesT t).length := (List.getElem?_eq_some_iff.mp hx).1
      have hmem := List.mem_of_getElem? hx
      have hp := hne p hmem
      have hps := hsh p hmem
      have hdrop : (piecesT t).drop i = p :: (piecesT t).drop (i + 1) := by
        rw [List.drop_eq_getElem_cons hi]
        have := (List.getElem?_eq_some_iff.mp hx).2
        rw [this]
      rw [hdrop] at hgo
      apply g_name
      obtain ⟨x, r, rfl⟩ : ∃ x r, p = x :: r := by
        cases p with
        | nil => exact absurd rfl hp
        | cons x r => exact ⟨x, r, rfl⟩
      have hb := bod_len (x :: r)
      have hb1 : Short (bod (x :: r)) := Nat.le_trans hb hps
      have hix : Ev (dOp ixD (dBor 2) (dC (.int 0))) [.sh (.str (S t)), .ow (fL f), .sh (.str (S (x :: r))), s3, s4, s5, .em] (.str (S [x])) [.sh (.str (S t)), .ow (fL f), .sh (.str (S (x :: r))), s3, s4, s5, .em] := ev_op (ev_bori rfl) ev_c fun P hP => by
        refine ⟨x, ?_, ?_, hP⟩
        · rw [SX.S_len]; exact sl_ok (Nat.le_trans hps (by decide))
        · show L2.atI (x :: r) 0 = some x
          exact at_0
      refine s_set (d := .str (S (bod (x :: r)))) (ev_if (evt_eqs hix (ev_lit lit_plus)) ?_) ?_
      · unfold bod
        by_cases c : x = 43
        · subst c
          rw [decide_eq_true rfl, if_pos rfl, if_pos (show (43 :: r).head? = some 43 from rfl)]
          exact ev_from1 (ev_bori rfl) hps
        · rw [decide_eq_false (by simpa using c), if_neg Bool.false_ne_true, if_neg (by simpa using c)]
          exact ev_vari rfl
      refine s_set ev_c ?_
      have rest : ∀ DD : DEnds, (∀ i f' s2 s3 s4 s5, numOfT (bod2 (bod (x :: r))) = some i → f' = addAt f (plc (bod (x :: r))) i → DD.nx [.sh (.str (S t)), .ow (fL f'), s2, s3, s4, s5, .em]) → (numOfT (bod2 (bod (x :: r))) = none → DD.rt .non) → dSeq (dSet 5 (dCall FS_number_of (dCons (dVar 3) dNil))) (dSeq (dIfS (dTest (dOp isD (dBor 5) (dC .non))) (dRet (dC .non)) dNext) (dSetIx 1 (dOp addD (dOp ixD (dBor 1) (dBor 4)) (dBor 5)) (dBor 4))) DD [.sh (.str (S t)), .ow (fL f), .sh (.str (S (x :: r))), .sh (.str (S (bod2 (bod (x :: r))))), .sh (.int (plc (bod (x :: r)))), s5, .em] := by
        intro DD h1 h2
        have hl := bod2_len (bod (x :: r))
        have hxr : (x :: r).length + 2 ≤ 1000000 ∨ (bod2 (bod (x :: r))).length ≤ (bod (x :: r)).length ∨ (bod2 (bod (x :: r))).length ≤ 2 := by
          unfold bod2
          split
          · split
            · rename_i h; rcases h with h | h <;> rw [h] <;> simp
            · right; left; simp
          · right; left; exact Nat.le_refl _
        have hb2 : Short (bod2 (bod (x :: r))) := by
          have h3 : (x :: r).length ≤ 1000000 := hps
          show _ ≤ _
          omega
        refine s_set (ev_call (S := FS_number_of) (bod2 (bod (x :: r))) (eva_cons (ev_vari rfl) eva_nil) hb2 rfl) ?_
        cases e : numOfT (bod2 (bod (x :: r))) with
        | none =>
          refine s_ifT (evt_isNb (ev_bori rfl) rfl) ?_
          exact s_ret ev_c (h2 e)
        | some i =>
          refine s_ifF (evt_isNb (ev_bori rfl) rfl) ?_
          apply s_next
          apply toSeq
          refine s_setIx (z := (plc (bod (x :: r)) : Nat)) (j := plc (bod (x :: r))) (d := .int (compI f (plc (bod (x :: r))) + i)) rfl (ev_op (ev_op (ev_borO rfl) (ev_bori rfl) fun P hP => ⟨_, fL_at (plc_lt _), hP⟩) (ev_bori rfl) fun P hP => hP) (ev_bori rfl) (ixN_nat (plc_lt _)) ?_
          rw [fL_set (plc_lt _)]
          exact h1 i _ _ _ _ _ e rfl
      have goal : ∀ DD : DEnds, (∀ i f' s2 s3 s4 s5, numOfT (bod2 (bod (x :: r))) = some i → f' = addAt f (plc (bod (x :: r))) i → DD.nx [.sh (.str (S t)), .ow (fL f'), s2, s3, s4, s5, .em]) → (numOfT (bod2 (bod (x :: r))) = none → DD.rt .non) →
          dSeq (dIfS (dOrT (dTru (dBM endswithD (dBor 3) (dCons (dC (.str "n")) dNil))) (dTru (dBM endswithD (dBor 3) (dCons (dC (.str "k")) dNil)))) (dSeq (dSet 4 (dBM findD (dC (.str "nk")) (dCons (dOp ixD (dBor 3) (dUn negD (dC (.int 1)))) dNil))) (dSeq (dSet 3 (dSl slD (dBor 3) dNoPart (dPart (dUn negD (dC (.int 1)))))) (dIfS (dOrT (dTest (dOp eqD (dBor 3) (dC (.str "")))) (dTest (dOp eqD (dBor 3) (dC (.str "-"))))) (dAug 3 iaddD (dC (.str "1"))) dNext))) dNext) (dSeq (dSet 5 (dCall FS_number_of (dCons (dVar 3) dNil))) (dSeq (dIfS (dTest (dOp isD (dBor 5) (dC .non))) (dRet (dC .non)) dNext) (dSetIx 1 (dOp addD (dOp ixD (dBor 1) (dBor 4)) (dBor 5)) (dBor 4)))) DD [.sh (.str (S t)), .ow (fL f), .sh (.str (S (x :: r))), .sh (.str (S (bod (x :: r)))), .sh (.int 2), s5, .em] := by
        intro DD h1 h2
        have rr := rest DD h1 h2
        generalize hbod : bod (x :: r) = b at *
        refine s_if (b := nk b) (evt_or (ev_end (ev_bori rfl) (ev_lit lit_n)) fun _ => ev_end (ev_bori rfl) (ev_lit lit_k)) ?_
        cases hnk : nk b with
        | false =>
          rw [if_neg Bool.false_ne_true]
          apply s_next
          have e1 : plc b = 2 := by unfold plc; rw [hnk, if_neg Bool.false_ne_true]
          have e2 : bod2 b = b := by unfold bod2; rw [hnk, if_neg Bool.false_ne_true]
          rw [e1, e2] at rr
          exact rr
        | true =>
          rw [if_pos rfl]
          obtain ⟨q, c, hq, hc⟩ : ∃ q c, b = q ++ [c] ∧ (c = 110 ∨ c = 107) := by
            unfold nk at hnk
            rcases Bool.or_eq_true_iff.mp hnk with h | h
            · obtain ⟨q, e⟩ := endL_1 h; exact ⟨q, 110, e, .inl rfl⟩
            · obtain ⟨q, e⟩ := endL_1 h; exact ⟨q, 107, e, .inr rfl⟩
          have hbne : b ≠ [] := by rw [hq]; simp
          have hlst : L2.atI b (-1) = some c := by rw [at_last hbne]; simp [hq]
          have htk : b.take (b.length - 1) = q := by rw [hq]; simp
          apply s_seq
          have hpl : Txt.find (S [110, 107]) (S [c]) = (plc b : Nat) := by
            unfold plc
            rw [hnk, if_pos rfl]
            rcases hc with rfl | rfl
            · rw [find_n, if_pos (by rw [hq]; unfold endL; simp)]; rfl
            · rw [find_k, if_neg (by rw [hq]; unfold endL; simp)]; rfl
          refine s_set (d := .int (plc b : Nat)) (ev_bm (ev_lit lit_nk) (eva_cons (ev_op (r := .str (S [c])) (ev_bori rfl) (fun Q E h => h) fun P hP => ⟨c, ?_, hlst, hP⟩) eva_nil) fun P hP => ?_) ?_
          · rw [SX.S_len]; exact sl_ok (Nat.le_trans hb1 (by decide))
          · show P (.int (Txt.find (S [110, 107]) (S [c])))
            rw [hpl]; exact hP
          apply s_seq
          refine s_set (ev_butlast (ev_bori rfl) hbne (sl_ok (Nat.le_trans hb1 (by decide)))) ?_
          refine s_if (b := decide (q = []) || decide (q = [45])) (evt_or (by rw [htk]; exact evt_eqs (ev_bori rfl) (ev_lit lit_empty)) fun _ => by rw [htk]; exact evt_eqs (ev_bori rfl) (ev_lit lit_minus)) ?_
          have hb2e : bod2 b = if q = [] ∨ q = [45] then q ++ [49] else q := by unfold bod2; rw [hnk, if_pos rfl, htk]
          by_cases c2 : q = [] ∨ q = [45]
          · have e : (decide (q = []) || decide (q = [45])) = true := by simpa using c2
            rw [e, if_pos rfl]
            rw [hb2e, if_pos c2] at rr
            refine s_aug1 (a := q) (by rw [htk]; rfl) (ev_lit lit_1) (sl_ok ?_) ?_
            · rcases c2 with h | h <;> rw [h] <;> decide
            · exact rr
          · have e : (decide (q = []) || decide (q = [45])) = false := by
              have h1 : q ≠ [] := fun h => c2 (.inl h)
              have h2 : q ≠ [45] := fun h => c2 (.inr h)
              simp [h1, h2]
            rw [e, if_neg Bool.false_ne_true]
            apply s_next
            rw [hb2e, if_neg c2] at rr
            rw [htk]
            exact rr
      apply goal
      · rintro i' f' s2 s3 s4 s5 e rfl
        refine ⟨_, _, _, _, _, rfl, ?_, addAt_bd hbd (valT_abs e)⟩
        rw [hgo]
        show (match numOfT (bod2 (bod (x :: r))) with | none => none | some i => fGo _ (addAt f (plc (bod (x :: r))) i)) = _
        rw [e]
      · intro e
        refine hrt none ?_
        unfold formOfT
        rw [hgo]
        have : fGo ((x :: r) :: (piecesT t).drop (i + 1)) f = none := by
          show (match numOfT (bod2 (bod (x :: r))) with | none => none | some i => fGo _ (addAt f (plc (bod (x :: r))) i)) = _
          rw [e]
        rw [this]
  · rintro ρ ⟨f, s2, s3, s4, s5, rfl, hgo, hbd⟩
    dsimp only
    rw [List.length_map, List.drop_length] at hgo
    have hgo : fGo (piecesT t) ⟨0, 0, 0⟩ = some f := hgo
    rw [List.length_map] at hbd
    have hsm := bd_sm hbd (Nat.le_trans hcount ht)
    refine s_set (d := fD f) (ev_cb (eva_cons (ev_borO rfl) eva_nil) fun P hP => hP) ?_
    by_cases c : formL f = t
    · refine e_ret (ev_ifT (c := _) ?_ (ev_vari rfl)) (hrt (some f) ?_)
      · have := evt_eqs (ρ := [.sh (.str (S t)), .ow (fL f), s2, s3, s4, s5, .sh (fD f)]) (ev_call (S := FS_show_form) f (eva_cons (ev_vari (i := 6) rfl) eva_nil) hsm rfl) (ev_bori (i := 0) (d := .str (S t)) rfl)
        rw [decide_eq_true c] at this
        exact this
      · unfold formOfT
        rw [hgo]
        dsimp only
        rw [if_pos c]
    · refine e_ret (ev_ifF (c := _) ?_ ev_c) (hrt none ?_)
      · have := evt_eqs (ρ := [.sh (.str (S t)), .ow (fL f), s2, s3, s4, s5, .sh (fD f)]) (ev_call (S := FS_show_form) f (eva_cons (ev_vari (i := 6) rfl) eva_nil) hsm rfl) (ev_bori (i := 0) (d := .str (S t)) rfl)
        rw [decide_eq_false c] at this
        exact this
      · unfold formOfT
        rw [hgo]
        dsimp only
        rw [if_neg c]
end T57

end

section
namespace T57
open PySem PySem.Spec PyProof.Rows L2 DL
def optP : Option Part → D
  | none => .non
  | some p => pD p
def chooseOfT (t : List Nat) : Option Part := match formOfT (parT [44, 32] t).1, formOfT (parT [44, 32] t).2.2 with
  | some u, some l => some (.cho u l)
  | _, _ => none
theorem parT_mem {a b : List Nat} (h : Uni a) : Uni (parT b a).1 ∧ Uni (parT b a).2.2 := by
  unfold parT
  cases e : TL.par b [] a with
  | none => exact ⟨h, fun c m => nomatch m⟩
  | some pq =>
    obtain ⟨p, q⟩ := pq
    have := par_cat e
    rw [List.nil_append] at this
    rw [this] at h
    exact ⟨fun c m => h c (by simp [show c ∈ p from m]), fun c m => h c (by simp [show c ∈ q from m])⟩
theorem isN_F {o : Option Form} : isNonD (optF o) = o.isNone := by cases o <;> rfl
def N_choose_of : List Str := ["text", "above", "comma", "below", "upper", "lower"]
def d_choose_of : DTS :=
  (dSeq (dAsg (dBM partitionD (dBor 0) (dCons (dC (.str ", ")) dNil)) (dgTup 3 (dgCons (dgName 1) (dgCons (dgName 2) (dgCons (dgName 3) dgNil)))))
  (dSeq (dSet 4 (dCall FS_form_of (dCons (dVar 1) dNil)))
  (dSeq (dSet 5 (dCall FS_form_of (dCons (dVar 3) dNil)))
  (dSeq (dIfS (dOrT (dTest (dOp isD (dBor 4) (dC .non))) (dTest (dOp isD (dBor 5) (dC .non)))) (dRet (dC .non)) dNext)
  (dRet (dTup (dCons (dC (.str "choose")) (dCons (dVar 4) (dCons (dVar 5) dNil)))))))))
def FS_choose_of : FS := { α := List Nat, args := fun t => [.str (S t)], pre := fun t => Short t ∧ Uni t, out := fun t => .ok (optP (chooseOfT t)) }
theorem hm_choose_of : ∀ a, FS_choose_of.pre a → d_choose_of (DDof false (FS_choose_of.out a)) (dstart N_choose_of (FS_choose_of.args a)) := by
  intro (t : List Nat) hh
  obtain ⟨ht, hu⟩ : Short t ∧ Uni t := hh
  unfold d_choose_of FS_choose_of N_choose_of
  dsimp only [dstart, istart, List.map_cons, List.map_nil, List.length_cons, List.length_nil, Nat.reduceAdd, Nat.reduceSub, List.replicate_succ, List.replicate_zero, List.cons_append, List.nil_append, List.tail_cons]
  have hl := parT_len (a := t) (b := [44, 32])
  have hm := parT_mem (b := [44, 32]) hu
  refine s_asg (ev_part (ev_bori rfl) (ev_lit lit_cm) (by decide) ht) ?_
  apply g_tup3
  refine s_set (ev_call (S := FS_form_of) (parT [44, 32] t).1 (eva_cons (ev_vari rfl) eva_nil) ⟨Nat.le_trans hl.1 ht, hm.1⟩ rfl) ?_
  refine s_set (ev_call (S := FS_form_of) (parT [44, 32] t).2.2 (eva_cons (ev_vari rfl) eva_nil) ⟨Nat.le_trans hl.2 ht, hm.2⟩ rfl) ?_
  have hrt : ∀ r : Option Part, chooseOfT t = r → (DDof false (.ok (optP (chooseOfT t)))).rt (optP r) := fun r h => by rw [← h]
  cases e1 : formOfT (parT [44, 32] t).1 with
  | none =>
    refine s_ifT (evt_or (b := true) (b2 := true) (evt_isNb (ev_bori rfl) rfl) (fun z => nomatch z)) ?_
    refine s_ret ev_c (hrt none ?_)
    unfold chooseOfT; rw [e1]
  | some u =>
    cases e2 : formOfT (parT [44, 32] t).2.2 with
    | none =>
      refine s_ifT (evt_or (b := false) (b2 := true) (evt_isNb (ev_bori rfl) rfl) (fun _ => evt_isNb (ev_bori rfl) rfl)) ?_
      refine s_ret ev_c (hrt none ?_)
      unfold chooseOfT; rw [e1, e2]
    | some l =>
      refine s_ifF (evt_or (b := false) (b2 := false) (evt_isNb (ev_bori rfl) rfl) (fun _ => evt_isNb (ev_bori rfl) rfl)) ?_
      apply s_next
      refine e_ret (ev_tup (eva_cons ev_c (eva_cons (ev_vari rfl) (eva_cons (ev_vari rfl) eva_nil))) (show (3 : Nat) ≤ sizeLine by decide)) (hrt (some (.cho u l)) ?_)
      unfold chooseOfT; rw [e1, e2]
/-! parts -/
def cutL (t : List Nat) (a b : Nat) : List Nat := (t.drop (min a t.length)).take (t.length - b - min a t.length)
theorem cutL_len {t : List Nat} {a b : Nat} : (cutL t a b).length ≤ t.length := by unfold cutL; simp; omega
theorem cutL_uni {t : List Nat} {a b : Nat} (h : Uni t) : Uni (cutL t a b) := fun c m => h c (List.mem_of_mem_drop (List.mem_of_mem_take m))
theorem cutS_L {t : List Nat} {a b : Nat} (hb : 0 < b) : cutS (S t) (some (a : Int)) (some (-(b : Int))) = S (cutL t a b) := by
  unfold cutS cutL
  have h1 : HT.sIx (S t).length 0 (some (a : Int)) = min a t.length := by rw [HT.sIx_nat, SX.S_len]
  have h2 : HT.sIx (S t).length (S t).length (some (-(b : Int))) = t.length - b := by
    rw [SX.S_len]
    unfold HT.sIx
    dsimp only
    rw [if_pos (by omega)]
    omega
  rw [h1, h2]
theorem ev_cut {ρ : DEnv} {t : DTE} {s : List Nat} {a b : Nat} (h : Ev t ρ (.str (S s)) ρ) (hl : Short s) (hb : 0 < b) : Ev (dSl slD t (dPart (dC (.int a))) (dPart (dUn negD (dC (.int b))))) ρ (.str (S (cutL s a b))) ρ := fun Q E k => h _ _ (by
  show (S s).length ≤ sizeLine ∧ Q (.str (cutS (S s) (some (a : Int)) (some (-(b : Int))))) ρ
  rw [cutS_L hb, SX.S_len]
  exact ⟨sl_ok (Nat.le_trans hl (by decide)), k⟩)
def partOfT (t : List Nat) : Option Part :=
  if (startL t [67, 40] && endL t [41]) = true then chooseOfT (cutL t 2 1)
  else if (startL t [40] && endL t [41]) = true then (match formOfT (cutL t 1 1) with | none => none | some f => some (.wei f))
  else if (startL t [91] && (endL t [93, 94, 107] || endL t [93, 94, 110])) = true then (match ratOfT (cutL t 1 3) with | none => none | some r => some (if t.getLast? = some 107 then .pow r else .gro r))
  else none
def N_part_of : List Str := ["text", "form", "fraction", "word"]
def d_part_of : DTS :=
  (dSeq (dIfS (dAndT (dTru (dBM startswithD (dBor 0) (dCons (dC (.str "C(")) dNil))) (dTru (dBM endswithD (dBor 0) (dCons (dC (.str ")")) dNil)))) (dRet (dCall FS_choose_of (dCons (dSl slD (dBor 0) (dPart (dC (.int 2))) (dPart (dUn negD (dC (.int 1))))) dNil))) dNext)
  (dSeq (dIfS (dAndT (dTru (dBM startswithD (dBor 0) (dCons (dC (.str "(")) dNil))) (dTru (dBM endswithD (dBor 0) (dCons (dC (.str ")")) dNil)))) (dSeq (dSet 1 (dCall FS_form_of (dCons (dSl slD (dBor 0) (dPart (dC (.int 1))) (dPart (dUn negD (dC (.int 1))))) dNil)))
  (dRet (dIf (dTest (dOp isD (dBor 1) (dC .non))) (dC .non) (dTup (dCons (dC (.str "weight")) (dCons (dVar 1) dNil)))))) dNext)
  (dSeq (dIfS (dAndT (dTru (dBM startswithD (dBor 0) (dCons (dC (.str "[")) dNil))) (dOrT (dTru (dBM endswithD (dBor 0) (dCons (dC (.str "]^k")) dNil))) (dTru (dBM endswithD (dBor 0) (dCons (dC (.str "]^n")) dNil))))) (dSeq (dSet 2 (dCall FS_ratio_of (dCons (dSl slD (dBor 0) (dPart (dC (.int 1))) (dPart (dUn negD (dC (.int 3))))) dNil)))
  (dSeq (dSet 3 (dIf (dTest (dOp eqD (dOp ixD (dBor 0) (dUn negD (dC (.int 1)))) (dC (.str "k")))) (dC (.str "power")) (dC (.str "growth"))))
  (dRet (dIf (dTest (dOp isD (dBor 2) (dC .non))) (dC .non) (dTup (dCons (dVar 3) (dCons (dVar 2) dNil))))))) dNext)
  (dRet (dC .non)))))
def FS_part_of : FS := { α := List Nat, args := fun t => [.str (S t)], pre := fun t => Short t ∧ Uni t, out := fun t => .ok (optP (partOfT t)) }
theorem hm_part_of : ∀ a, FS_part_of.pre a → d_part_of (DDof false (FS_part_of.out a)) (dstart N_part_of (FS_part_of.args a)) := by
  intro (t : List Nat) hh
  obtain ⟨ht, hu⟩ : Short t ∧ Uni t := hh
  unfold d_part_of FS_part_of N_part_of
  dsimp only [dstart, istart, List.map_cons, List.map_nil, List.length_cons, List.length_nil, Nat.reduceAdd, Nat.reduceSub, List.replicate_succ, List.replicate_zero, List.cons_append, List.nil_append, List.tail_cons]
  have hc : ∀ a b, Short (cutL t a b) := fun a b => Nat.le_trans cutL_len ht
  have hcu : ∀ a b, Uni (cutL t a b) := fun a b => cutL_uni hu
  have hrt : ∀ r : Option Part, partOfT t = r → (DDof false (.ok (optP (partOfT t)))).rt (optP r) := fun r h => by rw [← h]
  refine s_if (evt_and (ev_start (ev_bori rfl) (ev_lit lit_C)) fun _ => ev_end (ev_bori rfl) (ev_lit lit_cl)) ?_
  by_cases c1 : (startL t [67, 40] && endL t [41]) = true
  · rw [if_pos c1]
    refine s_ret (ev_call (S := FS_choose_of) (cutL t 2 1) (eva_cons (ev_cut (a := 2) (b := 1) (ev_bori rfl) ht (by decide)) eva_nil) ⟨hc _ _, hcu _ _⟩ rfl) (hrt (chooseOfT (cutL t 2 1)) ?_)
    unfold partOfT; rw [if_pos c1]
  rw [if_neg c1]
  apply s_next
  refine s_if (evt_and (ev_start (ev_bori rfl) (ev_lit lit_op)) fun _ => ev_end (ev_bori rfl) (ev_lit lit_cl)) ?_
  by_cases c2 : (startL t [40] && endL t [41]) = true
  · rw [if_pos c2]
    apply s_seq
    refine s_set (ev_call (S := FS_form_of) (cutL t 1 1) (eva_cons (ev_cut (a := 1) (b := 1) (ev_bori rfl) ht (by decide)) eva_nil) ⟨hc _ _, hcu _ _⟩ rfl) ?_
    cases e : formOfT (cutL t 1 1) with
    | none =>
      refine s_ret (ev_ifT (evt_isNb (ev_bori rfl) rfl) ev_c) (hrt none ?_)
      unfold partOfT; rw [if_neg c1, if_pos c2, e]
    | some f =>
      refine s_ret (ev_ifF (evt_isNb (ev_bori rfl) rfl) (ev_tup (eva_cons ev_c (eva_cons (ev_vari rfl) eva_nil)) (show (2 : Nat) ≤ sizeLine by decide))) (hrt (some (.wei f)) ?_)
      unfold partOfT; rw [if_neg c1, if_pos c2, e]
  rw [if_neg c2]
  apply s_next
  refine s_if (evt_and (ev_start (ev_bori rfl) (ev_lit lit_br)) fun _ => evt_or (ev_end (ev_bori rfl) (ev_lit lit_rk)) fun _ => ev_end (ev_bori rfl) (ev_lit lit_rn)) ?_
  by_cases c3 : (startL t [91] && (endL t [93, 94, 107] || endL t [93, 94, 110])) = true
  · rw [if_pos c3]
    have hne : t ≠ [] := fun z => by subst z; revert c3; decide
    apply s_seq
    refine s_set (ev_call (S := FS_ratio_of) (cutL t 1 3) (eva_cons (ev_cut (a := 1) (b := 3) (ev_bori rfl) ht (by decide)) eva_nil) (hc _ _) rfl) ?_
    apply s_seq
    have hlast : t.getLast? = some (t.getLast hne) := List.getLast?_eq_getLast hne
    refine s_set (d := .str (if t.getLast? = some 107 then "power" else "growth")) (ev_if (b := decide (t.getLast? = some 107)) ?_ ?_) ?_
    · have hx : Ev (dOp ixD (dBor 0) (dUn negD (dC (.int 1)))) [.sh (.str (S t)), .em, .sh (optR (ratOfT (cutL t 1 3))), .em] (.str (S [t.getLast hne])) [.sh (.str (S t)), .em, .sh (optR (ratOfT (cutL t 1 3))), .em] := ev_op (ev_bori rfl) (fun Q E h => h) fun P hP => ⟨_, by rw [SX.S_len]; exact sl_ok (Nat.le_trans ht (by decide)), at_last hne, hP⟩
      have := evt_eqs hx (ev_lit lit_k)
      have e : decide ([t.getLast hne] = [107]) = decide (t.getLast? = some 107) := by
        apply decide_eq_decide.mpr
        rw [hlast]; simp
      rw [e] at this
      exact this
    · by_cases c : t.getLast? = some 107
      · rw [decide_eq_true c, if_pos rfl, if_pos c]; exact ev_c
      · rw [decide_eq_false c, if_neg Bool.false_ne_true, if_neg c]; exact ev_c
    cases e : ratOfT (cutL t 1 3) with
    | none =>
      refine s_ret (ev_ifT (evt_isNb (ev_bori rfl) rfl) ev_c) (hrt none ?_)
      unfold partOfT; rw [if_neg c1, if_neg c2, if_pos c3, e]
    | some r =>
      refine s_ret (ev_ifF (evt_isNb (ev_bori rfl) rfl) (ev_tup (eva_cons (ev_vari rfl) (eva_cons (ev_vari rfl) eva_nil)) (show (2 : Nat) ≤ sizeLine by decide))) ?_
      have := hrt (some (if t.getLast? = some 107 then .pow r else .gro r)) (by unfold partOfT; rw [if_neg c1, if_neg c2, if_pos c3, e])
      by_cases c : t.getLast? = some 107
      · rw [if_pos c] at this ⊢; exact this
      · rw [if_neg c] at this ⊢; exact this
  rw [if_neg c3]
  apply s_next
  refine e_ret ev_c (hrt none ?_)
  unfold partOfT; rw [if_neg c1, if_neg c2, if_neg c3]
end T57

end

section
namespace T57
open PySem PySem.Spec PyProof.Rows L2 DL
/-- the pieces between blank, *, blank -/
def cutsT (t : List Nat) : List (List Nat) := TL.spl [32, 42, 32] 0 [] t
theorem spl_len {b : List Nat} : ∀ {l acc : List Nat} {k : Nat}, (TL.spl b k acc l).length ≤ l.length + 1
  | [], acc, k => by rw [TL.spl_nil]; simp
  | c :: r, acc, 0 => by
    cases e : TL.pre b (c :: r) with
    | true =>
      rw [TL.spl_hit e]
      have := spl_len (b := b) (l := r) (acc := []) (k := b.length - 1)
      simp only [List.length_cons]
      omega
    | false =>
      rw [TL.spl_miss e]
      have := spl_len (b := b) (l := r) (acc := acc ++ [c]) (k := 0)
      simp only [List.length_cons]
      omega
  | c :: r, acc, k + 1 => by
    have := spl_len (b := b) (l := r) (acc := acc) (k := k)
    show (TL.spl b k acc r).length ≤ _
    simp only [List.length_cons]
    omega
theorem spl_mem {b : List Nat} : ∀ {l acc : List Nat} {k : Nat} {p : List Nat}, p ∈ TL.spl b k acc l → p.length ≤ acc.length + l.length ∧ ∀ c ∈ p, c ∈ acc ∨ c ∈ l
  | [], acc, k, p, h => by
    rw [TL.spl_nil] at h
    simp at h
    subst h
    exact ⟨by simp, fun c m => .inl m⟩
  | c :: r, acc, 0, p, h => by
    cases e : TL.pre b (c :: r) with
    | true =>
      rw [TL.spl_hit e] at h
      rcases List.mem_cons.mp h with rfl | h
      · exact ⟨by simp, fun x m => .inl m⟩
      · obtain ⟨h1, h2⟩ := spl_mem h
        refine ⟨by simp at h1 ⊢; omega, fun x m => ?_⟩
        rcases h2 x m with z | z
        · cases z
        · exact .inr (List.mem_cons_of_mem _ z)
    | false =>
      rw [TL.spl_miss e] at h
      obtain ⟨h1, h2⟩ := spl_mem h
      refine ⟨by simp at h1 ⊢; omega, fun x m => ?_⟩
      rcases h2 x m with z | z
      · rcases List.mem_append.mp z with z | z
        · exact .inl z
        · simp at z; exact .inr (by rw [z]; exact List.mem_cons_self)
      · exact .inr (List.mem_cons_of_mem _ z)
  | c :: r, acc, k + 1, p, h => by
    obtain ⟨h1, h2⟩ := spl_mem (show p ∈ TL.spl b k acc r from h)
    refine ⟨by simp at h1 ⊢; omega, fun x m => ?_⟩
    rcases h2 x m with z | z
    · exact .inl z
    · exact .inr (List.mem_cons_of_mem _ z)
def rGo : List (List Nat) → List Part → Option (List Part)
  | [], acc => some acc
  | p :: r, acc => match partOfT p with
    | none => none
    | some q => rGo r (acc ++ [q])
def readT (t : List Nat) : Except Str D := match rGo (cutsT t) [] with
  | none => .error "NoTerm"
  | some ps => termOut ps
def N_read_term : List Str := ["text", "parts", "piece", "part"]
def d_read_term : DTS :=
  (dSeq (dOwn 1 (dLst dNil))
  (dSeq (dFor (dItL (dBM splitD (dBor 0) (dCons (dC (.str " * ")) dNil))) (dgName 2) (dSeq (dSet 3 (dCall FS_part_of (dCons (dVar 2) dNil)))
  (dSeq (dIfS (dTest (dOp isD (dBor 3) (dC .non))) (dRaise "NoTerm") dNext)
  (dApp 1 (dVar 3)))))
  (dRet (dCall FS_Term___init__ (dCons (dVar 1) dNil)))))
def FS_read_term : FS := { α := List Nat, args := fun t => [.str (S t)], pre := fun t => Short t ∧ Uni t ∧ ∀ ps, rGo (cutsT t) [] = some ps → (6 < ps.length ∨ ps.all validP = true), out := readT }
theorem rGo_len : ∀ {l : List (List Nat)} {acc ps : List Part}, rGo l acc = some ps → ps.length = acc.length + l.length
  | [], acc, ps, h => by cases h; simp
  | p :: r, acc, ps, h => by
    unfold rGo at h
    cases e : partOfT p with
    | none => rw [e] at h; cases h
    | some q =>
      rw [e] at h
      have := rGo_len h
      simp at this ⊢
      omega
theorem isN_P {o : Option Part} : isNonD (optP o) = o.isNone := by
  cases o with
  | none => rfl
  | some p => cases p <;> rfl
theorem hm_read_term : ∀ a, FS_read_term.pre a → d_read_term (DDof false (FS_read_term.out a)) (dstart N_read_term (FS_read_term.args a)) := by
  intro (t : List Nat) hh
  obtain ⟨ht, hu, hv⟩ : Short t ∧ Uni t ∧ ∀ ps, rGo (cutsT t) [] = some ps → (6 < ps.length ∨ ps.all validP = true) := hh
  unfold d_read_term FS_read_term N_read_term
  dsimp only [dstart, istart, List.map_cons, List.map_nil, List.length_cons, List.length_nil, Nat.reduceAdd, Nat.reduceSub, List.replicate_succ, List.replicate_zero, List.cons_append, List.nil_append, List.tail_cons]
  refine s_own (ev_lst eva_nil (Nat.zero_le _)) ?_
  have hcl : (cutsT t).length ≤ t.length + 1 := spl_len
  have ht' : t.length ≤ 1000000 := ht
  refine for_i ((cutsT t).map fun w => D.str (S w)) (fun i ρ => ∃ ps s2 s3, ρ = [.sh (.str (S t)), .ow (.lst (ps.map pD)), s2, s3] ∧ rGo (cutsT t) [] = rGo ((cutsT t).drop i) ps ∧ ps.length = i) (fun Q h => ?_) ⟨[], _, _, rfl, rfl, rfl⟩ ?_ ?_
  · refine (ev_bm (op := splitD) (d := .lst ((cutsT t).map fun w => D.str (S w))) (ev_bori rfl) (eva_cons (ev_lit lit_star) eva_nil) fun P hP => ?_) _ _ h
    show ((S [32, 42, 32]).length == 0) = false ∧ (S t).length + 2 ≤ sizeLine ∧ P (.lst ((Txt.split (S t) (S [32, 42, 32])).map D.str))
    rw [SX.split_S (by decide) (by decide), SX.S_len, SX.S_len, List.map_map]
    refine ⟨by decide, sl_ok (by omega), hP⟩
  · rintro i d ρ hd ⟨ps, s2, s3, rfl, hgo, hpl⟩
    rw [List.getElem?_map] at hd
    cases hx : (cutsT t)[i]? with
    | none => rw [hx] at hd; cases hd
    | some w =>
      rw [hx] at hd
      cases hd
      have hi : i < (cutsT t).length := (List.getElem?_eq_some_iff.mp hx).1
      obtain ⟨m1, m2⟩ := spl_mem (List.mem_of_getElem? hx)
      have hw1 : Short w := by
        have : w.length ≤ t.length := by simpa using m1
        exact Nat.le_trans this ht
      have hw2 : Uni w := fun c m => by
        rcases m2 c m with z | z
        · cases z
        · exact hu c z
      have hdrop : (cutsT t).drop i = w :: (cutsT t).drop (i + 1) := by
        rw [List.drop_eq_getElem_cons hi]
        have := (List.getElem?_eq_some_iff.mp hx).2
        rw [this]
      rw [hdrop] at hgo
      apply g_name
      refine s_set (ev_call (S := FS_part_of) w (eva_cons (ev_vari rfl) eva_nil) ⟨hw1, hw2⟩ rfl) ?_
      cases e : partOfT w with
      | none =>
        refine s_ifT (evt_isNb (ev_bori rfl) rfl) ?_
        apply s_raise
        show readT t = .error "NoTerm"
        unfold readT
        rw [hgo]
        have : rGo (w :: (cutsT t).drop (i + 1)) ps = none := by unfold rGo; rw [e]
        rw [this]
      | some p =>
        refine s_ifF (evt_isNb (ev_bori rfl) (by rw [isN_P]; rfl)) ?_
        apply s_next
        apply toSeq
        refine s_app (ds := ps.map pD) rfl (by rw [List.length_map, sizeLine_eq]; omega) (ev_vari rfl) ?_
        refine ⟨ps ++ [p], .sh (.str (S w)), .sh (pD p), ?_, ?_, by simp; omega⟩
        · rw [List.map_append]; rfl
        · rw [hgo]
          show (match partOfT w with | none => none | some q => rGo _ (ps ++ [q])) = _
          rw [e]
  · rintro ρ ⟨ps, s2, s3, rfl, hgo, hpl⟩
    dsimp only
    rw [List.length_map, List.drop_length] at hgo
    have hgo : rGo (cutsT t) [] = some ps := hgo
    have hpre : FS_Term___init__.pre ps := by
      refine ⟨by rw [hpl, List.length_map]; omega, ?_⟩
      rcases hv ps hgo with h | h
      · exact .inr (.inl h)
      · exact .inr (.inr h)
    have ho : readT t = termOut ps := by unfold readT; rw [hgo]
    cases e : termOut ps with
    | ok d =>
      refine e_ret' (ρ' := [.sh (.str (S t)), .sh (.lst (ps.map pD)), s2, s3]) (ev_call' (S := FS_Term___init__) ps (fun Q E h => ?_) hpre e) ?_
      · simp only [dSeq, dNext, dSet, dOwn, dRet, dRetN, dIfS, dDrop, dAsg, dPar, dAug, dSetIx, dApp, dClear, dRaise, dTest, dTru, truD, dAndT, dOrT, dNotT, dIf, dAndV, dOrV, dNotV, dOp, dUn, dCB, dBM, dNilA, dVar, dBor, dGive, dC, dCons, dNil, dTup, dLst, dSl, dPart, dNoPart, dIsi, nth, dstart, istart, dFld, dFldSet, putD, dgName, dgTup, dgCons, dgNil, dItL, dItT, dItS, dItR1, dItR2, dItE, dItZ, dYes, dMeth, dOr, Ends2, addD, iaddD, imulD, subD, mulD, fdivD, modD, powD, cmpD, eqD, neD, isD, isNotD, negD, absD, lenD, max2D, min2D, DL.intD, strD, tupleD, listD, catD, repD, slD, slDL, ixD, inSD, notInSD, startswithD, endswithD, findD, isdigitD, splitD, partitionD, joinD, lstripD, List.map_cons, List.map_nil, List.length_cons, List.length_nil, List.cons_append, List.nil_append, List.set_cons_zero, List.set_cons_succ, Nat.reduceAdd, Nat.reduceSub, List.replicate_succ, List.replicate_zero, List.tail_cons, Bool.false_eq_true, if_true, if_false, ite_true, ite_false, reduceIte, true_and, and_true, Bool.not_true, Bool.not_false, decide_eq_true_eq, Bool.not_eq_true', decide_eq_false_iff_not, ne_eq, reduceCtorEq, not_false_eq_true, DL.MulOk, at_0, at_1, at_2, Option.some.injEq, exists_eq_left, exists_eq_left', Int.reduceAdd, Int.reduceSub, Int.reduceMul, Int.reduceNeg, Int.reduceToNat, Int.reduceEq, Int.reduceLT, Int.reduceLE, Nat.reduceLeDiff, Nat.reduceLT, Nat.reduceEqDiff, sizeLine_eq]
        exact h
      · show readT t = .ok d
        rw [ho, e]
    | error x =>
      refine e_retX' (ρ' := [.sh (.str (S t)), .sh (.lst (ps.map pD)), s2, s3]) (ev_callX' (S := FS_Term___init__) ps (fun Q E h => ?_) hpre e) ?_
      · simp only [dSeq, dNext, dSet, dOwn, dRet, dRetN, dIfS, dDrop, dAsg, dPar, dAug, dSetIx, dApp, dClear, dRaise, dTest, dTru, truD, dAndT, dOrT, dNotT, dIf, dAndV, dOrV, dNotV, dOp, dUn, dCB, dBM, dNilA, dVar, dBor, dGive, dC, dCons, dNil, dTup, dLst, dSl, dPart, dNoPart, dIsi, nth, dstart, istart, dFld, dFldSet, putD, dgName, dgTup, dgCons, dgNil, dItL, dItT, dItS, dItR1, dItR2, dItE, dItZ, dYes, dMeth, dOr, Ends2, addD, iaddD, imulD, subD, mulD, fdivD, modD, powD, cmpD, eqD, neD, isD, isNotD, negD, absD, lenD, max2D, min2D, DL.intD, strD, tupleD, listD, catD, repD, slD, slDL, ixD, inSD, notInSD, startswithD, endswithD, findD, isdigitD, splitD, partitionD, joinD, lstripD, List.map_cons, List.map_nil, List.length_cons, List.length_nil, List.cons_append, List.nil_append, List.set_cons_zero, List.set_cons_succ, Nat.reduceAdd, Nat.reduceSub, List.replicate_succ, List.replicate_zero, List.tail_cons, Bool.false_eq_true, if_true, if_false, ite_true, ite_false, reduceIte, true_and, and_true, Bool.not_true, Bool.not_false, decide_eq_true_eq, Bool.not_eq_true', decide_eq_false_iff_not, ne_eq, reduceCtorEq, not_false_eq_true, DL.MulOk, at_0, at_1, at_2, Option.some.injEq, exists_eq_left, exists_eq_left', Int.reduceAdd, Int.reduceSub, Int.reduceMul, Int.reduceNeg, Int.reduceToNat, Int.reduceEq, Int.reduceLT, Int.reduceLE, Nat.reduceLeDiff, Nat.reduceLT, Nat.reduceEqDiff, sizeLine_eq]
        exact h
      · show readT t = .error x
        rw [ho, e]
end T57

end

section
namespace T57
open PySem PySem.Spec PyProof.Rows L2 DL
/-! what is written is read: numbers -/
theorem numL_head : ∀ n : Nat, ∃ x r, TL.numL n = x :: r ∧ (x = 48 → n = 0)
  | n => by
    by_cases h : n < 10
    · exact ⟨48 + n, [], TL.numL_lt h, fun e => by omega⟩
    · have h' : 10 ≤ n := by omega
      obtain ⟨x, r, e, k⟩ := numL_head (n / 10)
      refine ⟨x, r ++ [48 + n % 10], by rw [TL.numL_step h', e]; rfl, fun z => ?_⟩
      have := k z
      omega
termination_by n => n
decreasing_by omega
theorem numL_dig (n : Nat) : (TL.numL n).all dig = true := List.all_eq_true.mpr fun c m => by
  have := TL.numL_digits n c m
  simp [dig, this]
theorem num_int {i : Int} (h : i.natAbs < 10 ^ 60) : numOfT (intL i) = some i := by
  obtain ⟨x, r, e, k⟩ := numL_head i.natAbs
  have hd := numL_dig i.natAbs
  have hl : (TL.numL i.natAbs).length ≤ 60 := TL.numL_len (by decide) h
  have hv := TL.numL_val i.natAbs
  have hne := TL.numL_ne i.natAbs
  have hx : dig x = true := by rw [e] at hd; simp at hd; exact hd.1
  have hx' : 48 ≤ x ∧ x ≤ 57 := by simpa [dig] using hx
  by_cases c : i < 0
  · have et : intL i = 45 :: TL.numL i.natAbs := by unfold intL; rw [if_pos c]
    have ef : figs (intL i) = TL.numL i.natAbs := by rw [et]; rfl
    unfold numOfT
    rw [ef, if_neg]
    · rw [et]
      show some (-((NumText.digitsVal (TL.numL i.natAbs) : Nat) : Int)) = some i
      rw [hv]
      congr 1
      omega
    · rintro (z | z | z | ⟨z, _⟩)
      · exact hne z
      · omega
      · rw [hd] at z; cases z
      · rw [e] at z
        have := k (Option.some.inj z)
        omega
  · have et : intL i = TL.numL i.natAbs := by unfold intL; rw [if_neg c]
    have h45 : ¬ (TL.numL i.natAbs).take 1 = [45] := by
      rw [e]; intro z
      have : x = 45 := by simpa using z
      omega
    have ef : figs (intL i) = TL.numL i.natAbs := by rw [et]; unfold figs; rw [if_neg h45]
    unfold numOfT
    rw [ef, if_neg]
    · unfold valT
      rw [et, if_neg h45, hv]
      congr 1
      omega
    · rintro (z | z | z | ⟨z, z'⟩)
      · exact hne z
      · omega
      · rw [hd] at z; cases z
      · rw [e] at z
        have h0 := k (Option.some.inj z)
        refine z' ?_
        rw [et, h0, TL.numL_lt (by decide)]
theorem int_no {i : Int} {s : Nat} (h : s < 45 ∨ 57 < s ∨ s = 46 ∨ s = 47) : s ∉ intL i := by
  unfold intL
  split
  · intro m
    rcases List.mem_cons.mp m with m | m
    · omega
    · have := TL.numL_digits _ s m; omega
  · intro m
    have := TL.numL_digits _ s m; omega
/-- a fraction in lowest terms -/
def ROk (r : Int × Int) : Prop := r.1.natAbs < 10 ^ 60 ∧ 1 ≤ r.2 ∧ r.2.natAbs < 10 ^ 60 ∧ gcdI r.1 r.2 = 1
theorem rat_read {r : Int × Int} (h : ROk r) : ratOfT (ratL r) = some r := by
  obtain ⟨h1, h2, h3, h4⟩ := h
  unfold ratL
  by_cases c : r.2 = 1
  · rw [if_pos c]
    have ep : parT [47] (intL r.1) = (intL r.1, [], []) := by
      unfold parT
      rw [SX.par_head_none (sep := []) (int_no (by omega))]
    unfold ratOfT
    rw [ep]
    dsimp only
    rw [num_int h1]
    simp [← c]
  · rw [if_neg c]
    have ep : parT [47] (intL r.1 ++ 47 :: intL r.2) = (intL r.1, [47], intL r.2) := by
      unfold parT
      have := SX.par_head (c := 47) (sep := []) (p := intL r.1) (intL r.2) (int_no (by omega))
      rw [show intL r.1 ++ 47 :: intL r.2 = intL r.1 ++ (47 :: [] ++ intL r.2) from rfl, this]
    unfold ratOfT
    rw [ep]
    dsimp only
    rw [num_int h1, num_int h3]
    have n2 : ¬ (r.2 < 2 ∨ gcdI r.1 r.2 ≠ 1) := by
      rintro (z | z)
      · omega
      · exact z h4
    simp only [List.cons_ne_nil, if_false]
    rw [if_neg n2]
/-! forms -/
def Sgn (c : Nat) : Prop := c = 43 ∨ c = 45
theorem pst_run : ∀ (r : List Nat) (ws : List (List Nat)) (w : List Nat), (∀ c ∈ r, ¬ Sgn c) → r.foldl pst (ws ++ [w]) = ws ++ [w ++ r]
  | [], ws, w, _ => by simp
  | c :: r, ws, w, h => by
    have hc : ¬ (c = 43 ∨ c = 45 ∨ ws ++ [w] = []) := by
      rintro (z | z | z)
      · exact h c List.mem_cons_self (.inl z)
      · exact h c List.mem_cons_self (.inr z)
      · simp at z
    rw [List.foldl_cons]
    have e : pst (ws ++ [w]) c = ws ++ [w ++ [c]] := by
      unfold pst
      rw [if_neg hc]
      simp
    rw [e, pst_run r ws (w ++ [c]) fun x m => h x (List.mem_cons_of_mem _ m)]
    simp
theorem pst_word {x : Nat} {r : List Nat} {ws : List (List Nat)} (hx : Sgn x ∨ ws = []) (hr : ∀ c ∈ r, ¬ Sgn c) : (x :: r).foldl pst ws = ws ++ [x :: r] := by
  have hc : x = 43 ∨ x = 45 ∨ ws = [] := by
    rcases hx with (z | z) | z
    · exact .inl z
    · exact .inr (.inl z)
    · exact .inr (.inr z)
  rw [List.foldl_cons]
  have e : pst ws x = ws ++ [[x]] := by unfold pst; rw [if_pos hc]
  rw [e, pst_run r ws [x] hr]
  rfl
def NoS (l : List Nat) : Prop := ∀ c ∈ l, ¬ Sgn c
theorem numL_noS (n : Nat) : NoS (TL.numL n) := fun c m => by
  have := TL.numL_digits n c m
  rintro (z | z) <;> omega
theorem pc_shape {i : Int} {l : List Nat} (hl : NoS l) (h0 : i ≠ 0) : ∃ x r, pc i l = x :: r ∧ NoS r ∧ (0 < i → ¬ Sgn x) ∧ (i < 0 → x = 45) := by
  unfold pc
  rw [if_neg h0]
  by_cases c : l ≠ [] ∧ i.natAbs = 1
  · rw [if_pos c]
    by_cases hn : i < 0
    · rw [if_pos hn]
      exact ⟨45, l, rfl, hl, fun z => by omega, fun _ => rfl⟩
    · rw [if_neg hn]
      cases l with
      | nil => exact absurd rfl c.1
      | cons x r => exact ⟨x, r, rfl, fun y m => hl y (List.mem_cons_of_mem _ m), fun _ => hl x List.mem_cons_self, fun z => absurd z hn⟩
  · rw [if_neg c]
    have ha : ∀ {a b : List Nat}, NoS a → NoS b → NoS (a ++ b) := fun h1 h2 y m => by
      rcases List.mem_append.mp m with m | m
      · exact h1 y m
      · exact h2 y m
    by_cases hn : i < 0
    · refine ⟨45, TL.numL i.natAbs ++ l, by unfold intL; rw [if_pos hn]; rfl, ha (numL_noS _) hl, fun z => by omega, fun _ => rfl⟩
    · obtain ⟨x, r, e, _⟩ := numL_head i.natAbs
      have hs := numL_noS i.natAbs
      rw [e] at hs
      refine ⟨x, r ++ l, by unfold intL; rw [if_neg hn, e]; rfl, ha (fun y m => hs y (List.mem_cons_of_mem _ m)) hl, fun _ => hs x List.mem_cons_self, fun z => absurd z hn⟩
theorem comp_noS (i : Nat) : NoS (compL i) := by
  match i with
  | 0 => intro c m; simp [compL] at m; subst m; rintro (z | z) <;> cases z
  | 1 => intro c m; simp [compL] at m; subst m; rintro (z | z) <;> cases z
  | n + 2 => intro c m; simp [compL] at m
theorem pieces_w (f : Form) : ∀ i, (wGo f i).flatten.foldl pst [] = wGo f i
  | 0 => rfl
  | i + 1 => by
    have ih := pieces_w f i
    show (wst _ _ _).flatten.foldl pst [] = wst (wGo f i) (compI f i) (compL i)
    unfold wst
    by_cases h0 : compI f i = 0
    · rw [if_pos h0]; exact ih
    · rw [if_neg h0]
      rw [List.flatten_append, List.foldl_append, ih]
      obtain ⟨x, r, e, hr, hp, hn⟩ := pc_shape (comp_noS i) h0
      by_cases c : 0 < compI f i ∧ wGo f i ≠ []
      · rw [if_pos c, e]
        have : [([43] ++ x :: r)].flatten = 43 :: x :: r := by simp
        rw [this]
        refine pst_word (.inl (.inl rfl)) fun y m => ?_
        rcases List.mem_cons.mp m with rfl | m
        · exact hp c.1
        · exact hr y m
      · rw [if_neg c, e]
        have : [([] ++ x :: r)].flatten = x :: r := by simp
        rw [this]
        refine pst_word ?_ hr
        by_cases hpos : 0 < compI f i
        · exact .inr (Classical.byContradiction fun z => c ⟨hpos, z⟩)
        · exact .inl (.inr (hn (by omega)))
end T57

end

section
namespace T57
open PySem PySem.Spec PyProof.Rows L2 DL
theorem endL_snoc {a : List Nat} {c d : Nat} : endL (a ++ [c]) [d] = decide (c = d) := by
  unfold endL
  have : (a ++ [c]).length - [d].length = a.length := by simp
  rw [this, List.drop_left]
  by_cases h : c = d
  · subst h; simp
  · simp [h]
theorem endL_noS {a b : List Nat} {c d : Nat} (h : c ≠ d) : endL (a ++ [c]) (b ++ [d]) = false := by
  unfold endL
  rw [beq_eq_false_iff_ne]
  intro z
  have e1 : ((a ++ [c]).drop ((a ++ [c]).length - (b ++ [d]).length)).getLast? = some c := by
    rw [List.getLast?_drop]
    rw [if_neg (by simp; omega)]
    simp
  rw [z] at e1
  simp at e1
  exact h e1.symm
theorem int_last (i : Int) : ∃ a c, intL i = a ++ [c] ∧ 48 ≤ c ∧ c ≤ 57 := by
  rcases List.eq_nil_or_concat (intL i) with h | ⟨a, c, h⟩
  · exact absurd h (intL_ne i)
  · refine ⟨a, c, by simpa using h, ?_⟩
    have hm : c ∈ intL i := by rw [h]; simp
    have hne := TL.numL_ne i.natAbs
    unfold intL at h
    split at h
    · -- the last of a text of at least two signs
      rcases List.eq_nil_or_concat (TL.numL i.natAbs) with h2 | ⟨b, d, h2⟩
      · exact absurd h2 hne
      · have : c = d := by
          rw [h2] at h
          have h' : (45 :: b) ++ [d] = a ++ [c] := by simpa using h
          have h3 := (List.append_inj' h' rfl).2
          simpa using h3.symm
        subst this
        exact TL.numL_digits i.natAbs c (by rw [h2]; simp)
    · exact TL.numL_digits i.natAbs c (by rw [h]; simp)
theorem int_ne1 {i : Int} (h : i.natAbs ≠ 1) : intL i ≠ [45] := by
  obtain ⟨a, c, e, h1, h2⟩ := int_last i
  rw [e]
  intro z
  have := congrArg List.getLast? z
  simp at this
  omega
/-- a word's body read -/
theorem pc_read {x : Int} {k : Nat} (hk : k < 3) (h0 : x ≠ 0) : plc (pc x (compL k)) = k ∧ bod2 (pc x (compL k)) = intL x := by
  have key : ∀ c : Nat, compL k = [c] → (c = 110 ∧ k = 0 ∨ c = 107 ∧ k = 1) → plc (pc x (compL k)) = k ∧ bod2 (pc x (compL k)) = intL x := by
    intro c hc hkc
    have hq : ∃ q, pc x (compL k) = q ++ [c] ∧ ((q = [] ∨ q = [45]) → q ++ [49] = intL x) ∧ (¬ (q = [] ∨ q = [45]) → q = intL x) := by
      rw [hc]
      unfold pc
      rw [if_neg h0]
      by_cases c1 : x.natAbs = 1
      · rw [if_pos ⟨List.cons_ne_nil _ _, c1⟩]
        have := intL_one c1
        by_cases hn : x < 0
        · rw [if_pos hn] at this ⊢
          exact ⟨[45], rfl, fun _ => this.symm, fun z => absurd (.inr rfl) z⟩
        · rw [if_neg hn] at this ⊢
          exact ⟨[], rfl, fun _ => this.symm, fun z => absurd (.inl rfl) z⟩
      · rw [if_neg fun z => c1 z.2]
        refine ⟨intL x, rfl, fun z => ?_, fun _ => rfl⟩
        rcases z with z | z
        · exact absurd z (intL_ne x)
        · exact absurd z (int_ne1 c1)
    obtain ⟨q, e, h1, h2⟩ := hq
    rw [e]
    have hnk : nk (q ++ [c]) = true := by
      unfold nk
      rw [endL_snoc, endL_snoc]
      rcases hkc with ⟨rfl, _⟩ | ⟨rfl, _⟩ <;> rfl
    have htk : (q ++ [c]).take ((q ++ [c]).length - 1) = q := by simp
    constructor
    · unfold plc
      rw [hnk, if_pos rfl, endL_snoc]
      rcases hkc with ⟨rfl, rfl⟩ | ⟨rfl, rfl⟩ <;> rfl
    · unfold bod2
      rw [hnk, if_pos rfl, htk]
      by_cases z : q = [] ∨ q = [45]
      · rw [if_pos z]; exact h1 z
      · rw [if_neg z]; exact h2 z
  match k, hk with
  | 0, _ => exact key 110 rfl (.inl ⟨rfl, rfl⟩)
  | 1, _ => exact key 107 rfl (.inr ⟨rfl, rfl⟩)
  | 2, _ =>
    have e : pc x (compL 2) = intL x := by
      show pc x [] = _
      unfold pc
      rw [if_neg h0, if_neg (fun z => z.1 rfl)]
      simp
    rw [e]
    obtain ⟨a, c, ea, h1, h2⟩ := int_last x
    have hnk : nk (intL x) = false := by
      unfold nk
      rw [ea, endL_snoc, endL_snoc, decide_eq_false (by omega), decide_eq_false (by omega)]
      rfl
    exact ⟨by unfold plc; rw [hnk]; rfl, by unfold bod2; rw [hnk]; rfl⟩
theorem bod_w {x : Int} {k : Nat} {ws : List (List Nat)} (h0 : x ≠ 0) : bod ((if 0 < x ∧ ws ≠ [] then [43] else []) ++ pc x (compL k)) = pc x (compL k) := by
  obtain ⟨y, r, e, hr, hp, hn⟩ := pc_shape (comp_noS k) h0
  by_cases c : 0 < x ∧ ws ≠ []
  · rw [if_pos c]
    rfl
  · rw [if_neg c, List.nil_append, e]
    unfold bod
    rw [if_neg]
    intro z
    have hy : y = 43 := Option.some.inj z
    by_cases hpos : 0 < x
    · exact hp hpos (.inl hy)
    · have := hn (by omega)
      omega
theorem fGo_snoc : ∀ (a : List (List Nat)) (w : List Nat) (f0 : Form), fGo (a ++ [w]) f0 = (fGo a f0).bind fun g => (numOfT (bod2 (bod w))).map (addAt g (plc (bod w)))
  | [], w, f0 => by
    show (match numOfT (bod2 (bod w)) with | none => none | some i => fGo [] (addAt f0 (plc (bod w)) i)) = (numOfT (bod2 (bod w))).map (addAt f0 (plc (bod w)))
    cases numOfT (bod2 (bod w)) <;> rfl
  | p :: r, w, f0 => by
    show (match numOfT (bod2 (bod p)) with | none => none | some i => fGo (r ++ [w]) (addAt f0 (plc (bod p)) i)) = (match numOfT (bod2 (bod p)) with | none => none | some i => fGo r (addAt f0 (plc (bod p)) i)).bind _
    cases numOfT (bod2 (bod p)) with
    | none => rfl
    | some i => exact fGo_snoc r w _
def fpt (f : Form) : Nat → Form
  | 0 => ⟨0, 0, 0⟩
  | i + 1 => addAt (fpt f i) i (compI f i)
theorem addAt_0 {f : Form} {k : Nat} : addAt f k 0 = f := by
  unfold addAt
  split <;> simp
def FOk (f : Form) : Prop := f.n.natAbs < 10 ^ 60 ∧ f.k.natAbs < 10 ^ 60 ∧ f.c.natAbs < 10 ^ 60
theorem compI_ok {f : Form} (h : FOk f) (i : Nat) : (compI f i).natAbs < 10 ^ 60 := by
  match i with
  | 0 => exact h.1
  | 1 => exact h.2.1
  | n + 2 => exact h.2.2
theorem fGo_w {f : Form} (h : FOk f) : ∀ i, i ≤ 3 → fGo (wGo f i) ⟨0, 0, 0⟩ = some (fpt f i)
  | 0, _ => rfl
  | i + 1, hi => by
    have ih := fGo_w h i (by omega)
    show fGo (wst (wGo f i) (compI f i) (compL i)) _ = some (addAt (fpt f i) i (compI f i))
    unfold wst
    by_cases h0 : compI f i = 0
    · rw [if_pos h0, ih, h0, addAt_0]
    · rw [if_neg h0, fGo_snoc, ih, bod_w h0]
      obtain ⟨e1, e2⟩ := pc_read (k := i) (by omega) h0
      rw [e1, e2, num_int (compI_ok h i)]
      rfl
theorem fpt_3 (f : Form) : fpt f 3 = f := by
  show (⟨0 + f.n, 0 + f.k, 0 + f.c⟩ : Form) = f
  simp
theorem form_read {f : Form} (h : FOk f) : formOfT (formL f) = some f := by
  obtain ⟨h1, h2⟩ := wGo_ok f 3
  have e3 : aGo f 3 = form3 f := rfl
  by_cases c : form3 f = []
  · have hw : wGo f 3 = [] := by
      rw [← e3, ← h1] at c
      cases e : wGo f 3 with
      | nil => rfl
      | cons w r =>
        rw [e] at c h2
        have := h2 w List.mem_cons_self
        simp [this] at c
    have hf := fGo_w h 3 (Nat.le_refl _)
    rw [hw, fpt_3] at hf
    have hf : (⟨0, 0, 0⟩ : Form) = f := Option.some.inj hf
    rw [← hf]
    decide +kernel
  · have ef : formL f = form3 f := by unfold formL; rw [if_neg c]
    unfold formOfT
    have hp : piecesT (formL f) = wGo f 3 := by
      rw [ef, ← e3, ← h1]
      exact pieces_w f 3
    rw [hp, fGo_w h 3 (Nat.le_refl _), fpt_3]
    simp
end T57

end

section
namespace T57
open PySem PySem.Spec PyProof.Rows L2 DL
/-! the signs of texts -/
def FC (c : Nat) : Prop := (48 ≤ c ∧ c ≤ 57) ∨ c = 43 ∨ c = 45 ∨ c = 110 ∨ c = 107
theorem int_chars (i : Int) : ∀ c ∈ intL i, (48 ≤ c ∧ c ≤ 57) ∨ c = 45 := fun c m => by
  unfold intL at m
  split at m
  · rcases List.mem_cons.mp m with m | m
    · exact .inr m
    · exact .inl (TL.numL_digits _ c m)
  · exact .inl (TL.numL_digits _ c m)
theorem pc_chars {i : Int} {l : List Nat} (hl : ∀ c ∈ l, FC c) : ∀ c ∈ pc i l, FC c := fun c m => by
  unfold pc at m
  split at m
  · cases m
  · split at m
    · split at m
      · rcases List.mem_cons.mp m with m | m
        · exact .inr (.inr (.inl m))
        · exact hl c m
      · exact hl c m
    · rcases List.mem_append.mp m with m | m
      · rcases int_chars i c m with h | h
        · exact .inl h
        · exact .inr (.inr (.inl h))
      · exact hl c m
theorem stp_chars {acc l : List Nat} {i : Int} (ha : ∀ c ∈ acc, FC c) (hl : ∀ c ∈ l, FC c) : ∀ c ∈ stp acc i l, FC c := fun c m => by
  unfold stp at m
  rcases List.mem_append.mp m with m | m
  · exact ha c m
  · rcases List.mem_append.mp m with m | m
    · split at m
      · simp at m; exact .inr (.inl m)
      · cases m
    · exact pc_chars hl c m
theorem form_chars (f : Form) : ∀ c ∈ formL f, FC c := fun c m => by
  unfold formL at m
  split at m
  · simp at m; subst m; exact .inl ⟨by decide, by decide⟩
  · exact stp_chars (stp_chars (stp_chars (acc := []) (fun _ z => by cases z) (fun c z => by simp at z; exact .inr (.inr (.inr (.inl z))))) (fun c z => by simp at z; exact .inr (.inr (.inr (.inr z))))) (l := []) (fun _ z => by cases z) c m
theorem form_no {f : Form} {s : Nat} (h : ¬ FC s) : s ∉ formL f := fun m => h (form_chars f s m)
theorem rat_chars (r : Int × Int) : ∀ c ∈ ratL r, (48 ≤ c ∧ c ≤ 57) ∨ c = 45 ∨ c = 47 := fun c m => by
  have k : ∀ i : Int, c ∈ intL i → (48 ≤ c ∧ c ≤ 57) ∨ c = 45 ∨ c = 47 := fun i m => by
    rcases int_chars i c m with h | h
    · exact .inl h
    · exact .inr (.inl h)
  unfold ratL at m
  split at m
  · exact k _ m
  · rcases List.mem_append.mp m with m | m
    · exact k _ m
    · rcases List.mem_cons.mp m with m | m
      · exact .inr (.inr m)
      · exact k _ m
theorem part_star (p : Part) : 42 ∉ partL p := by
  have hf : ∀ f : Form, 42 ∉ formL f := fun f => form_no (by unfold FC; omega)
  have hr : ∀ r : Int × Int, 42 ∉ ratL r := fun r m => by have := rat_chars r 42 m; omega
  cases p <;> simp [partL, hf, hr]
theorem part_uni (p : Part) : Uni (partL p) := by
  have hf : ∀ (f : Form) (c : Nat), c ∈ formL f → c < 0x110000 := fun f c m => by
    have := form_chars f c m
    unfold FC at this
    omega
  have hr : ∀ (r : Int × Int) (c : Nat), c ∈ ratL r → c < 0x110000 := fun r c m => by have := rat_chars r c m; omega
  intro c m
  cases p with
  | cho u l =>
    simp only [partL, List.mem_append, List.mem_cons, List.not_mem_nil, or_false] at m
    rcases m with (((m | m) | m) | m) | m
    · omega
    · exact hf _ _ m
    · omega
    · exact hf _ _ m
    · omega
  | wei f =>
    simp only [partL, List.mem_append, List.mem_cons, List.not_mem_nil, or_false] at m
    rcases m with (m | m) | m
    · omega
    · exact hf _ _ m
    · omega
  | pow r =>
    simp only [partL, List.mem_append, List.mem_cons, List.not_mem_nil, or_false] at m
    rcases m with (m | m) | m
    · omega
    · exact hr _ _ m
    · omega
  | gro r =>
    simp only [partL, List.mem_append, List.mem_cons, List.not_mem_nil, or_false] at m
    rcases m with (m | m) | m
    · omega
    · exact hr _ _ m
    · omega
/-! parts read -/
theorem cutL_mid {a m b : List Nat} : cutL (a ++ m ++ b) a.length b.length = m := by
  unfold cutL
  have h1 : min a.length (a ++ m ++ b).length = a.length := by first | (simp; omega) | simp
  rw [h1]
  have h2 : (a ++ m ++ b).length - b.length - a.length = m.length := by first | (simp; omega) | simp
  rw [h2, List.append_assoc, List.drop_left, List.take_left]
theorem endL_app {a b : List Nat} : endL (a ++ b) b = true := by
  unfold endL
  have : (a ++ b).length - b.length = a.length := by simp
  rw [this, List.drop_left]
  simp
def POk : Part → Prop
  | .cho u l => FOk u ∧ FOk l ∧ mIsChoose u l = true
  | .wei f => FOk f
  | .pow r => ROk r ∧ r.1 ≠ 0
  | .gro r => ROk r ∧ r.1 ≠ 0
theorem part_read {p : Part} (h : POk p) : partOfT (partL p) = some p := by
  cases p with
  | cho u l =>
    obtain ⟨h1, h2, _⟩ := h
    have e1 : startL (partL (.cho u l)) [67, 40] = true := by simp [startL, partL]
    have e2 : endL (partL (.cho u l)) [41] = true := endL_app
    have e3 : cutL (partL (.cho u l)) 2 1 = formL u ++ ([44, 32] ++ formL l) := by
      have := cutL_mid (a := [67, 40]) (m := formL u ++ ([44, 32] ++ formL l)) (b := [41])
      simp only [partL]
      simpa using this
    unfold partOfT
    rw [e1, e2, if_pos (show (true && true) = true from rfl), e3]
    have ep : parT [44, 32] (formL u ++ ([44, 32] ++ formL l)) = (formL u, [44, 32], formL l) := by
      unfold parT
      rw [SX.par_head (c := 44) (sep := [32]) (p := formL u) (formL l) (form_no (by unfold FC; omega))]
    unfold chooseOfT
    rw [ep]
    dsimp only
    rw [form_read h1, form_read h2]
  | wei f =>
    have e0 : startL (partL (.wei f)) [67, 40] = false := by
      unfold startL
      rw [beq_eq_false_iff_ne]
      intro z
      simp [partL] at z
    have e1 : startL (partL (.wei f)) [40] = true := by simp [startL, partL]
    have e2 : endL (partL (.wei f)) [41] = true := endL_app
    have e3 : cutL (partL (.wei f)) 1 1 = formL f := cutL_mid (a := [40]) (m := formL f) (b := [41])
    unfold partOfT
    rw [e0, e1, e2, e3, form_read h]
    rfl
  | pow r =>
    have e0 : startL (partL (.pow r)) [67, 40] = false := by
      unfold startL
      rw [beq_eq_false_iff_ne]
      intro z
      simp [partL] at z
    have e1 : startL (partL (.pow r)) [40] = false := by
      unfold startL
      rw [beq_eq_false_iff_ne]
      intro z
      simp [partL] at z
    have e2 : startL (partL (.pow r)) [91] = true := by simp [startL, partL]
    have e3 : endL (partL (.pow r)) [93, 94, 107] = true := endL_app
    have e4 : cutL (partL (.pow r)) 1 3 = ratL r := cutL_mid (a := [91]) (m := ratL r) (b := [93, 94, 107])
    have e5 : (partL (.pow r)).getLast? = some 107 := by show ([91] ++ ratL r ++ [93, 94, 107]).getLast? = some 107; rw [List.getLast?_append]; rfl
    unfold partOfT
    rw [e0, e1, e2, e3, e4, rat_read h.1, e5]
    rfl
  | gro r =>
    have e0 : startL (partL (.gro r)) [67, 40] = false := by
      unfold startL
      rw [beq_eq_false_iff_ne]
      intro z
      simp [partL] at z
    have e1 : startL (partL (.gro r)) [40] = false := by
      unfold startL
      rw [beq_eq_false_iff_ne]
      intro z
      simp [partL] at z
    have e2 : startL (partL (.gro r)) [91] = true := by simp [startL, partL]
    have e3 : endL (partL (.gro r)) [93, 94, 110] = true := endL_app
    have e4 : cutL (partL (.gro r)) 1 3 = ratL r := cutL_mid (a := [91]) (m := ratL r) (b := [93, 94, 110])
    have e5 : (partL (.gro r)).getLast? = some 110 := by show ([91] ++ ratL r ++ [93, 94, 110]).getLast? = some 110; rw [List.getLast?_append]; rfl
    unfold partOfT
    rw [e0, e1, e2, e3, e4, rat_read h.1, e5, Bool.or_true]
    rfl
theorem part_bad (a : List Nat) : partOfT (a ++ [32]) = none := by
  have k1 : endL (a ++ [32]) [41] = false := by rw [endL_snoc]; rfl
  have k2 : endL (a ++ [32]) [93, 94, 107] = false := endL_noS (b := [93, 94]) (by decide)
  have k3 : endL (a ++ [32]) [93, 94, 110] = false := endL_noS (b := [93, 94]) (by decide)
  unfold partOfT
  rw [k1, k2, k3, Bool.and_false, Bool.and_false, Bool.or_false, Bool.and_false]
  rfl
/-! terms read -/
theorem pre_two {x y : Nat} {r : List Nat} (h : y ≠ 42) : TL.pre [32, 42, 32] (x :: y :: r) = false := by
  unfold TL.pre
  rw [beq_eq_false_iff_ne]
  intro z
  simp at z
  exact h z.2.1
theorem pre_mid {p rest : List Nat} (h : 42 ∉ p) : ∀ i, i < p.length → TL.pre [32, 42, 32] ((p ++ ([32, 42, 32] ++ rest)).drop i) = false := fun i hi => by
  rw [List.drop_append_of_le_length (by omega)]
  rw [List.drop_eq_getElem_cons hi]
  by_cases hi2 : i + 1 < p.length
  · rw [List.drop_eq_getElem_cons hi2]
    refine pre_two fun z => h ?_
    rw [← z]
    exact List.getElem_mem hi2
  · rw [List.drop_of_length_le (by omega)]
    exact pre_two (by decide)
theorem pre_end {p : List Nat} (h : 42 ∉ p) : ∀ i, i < p.length → TL.pre [32, 42, 32] (p.drop i) = false := fun i hi => by
  rw [List.drop_eq_getElem_cons hi]
  by_cases hi2 : i + 1 < p.length
  · rw [List.drop_eq_getElem_cons hi2]
    refine pre_two fun z => h ?_
    rw [← z]
    exact List.getElem_mem hi2
  · rw [List.drop_of_length_le (by omega)]
    unfold TL.pre
    rw [beq_eq_false_iff_ne]
    intro z
    simp at z
theorem cuts_join : ∀ {ws : List (List Nat)}, ws ≠ [] → (∀ w ∈ ws, 42 ∉ w) → cutsT (TL.joinL [32, 42, 32] ws) = ws
  | [], h, _ => absurd rfl h
  | [p], _, h => by
    show TL.spl [32, 42, 32] 0 [] p = [p]
    exact TL.spl_last (pre_end (h p List.mem_cons_self))
  | p :: q :: r, _, h => by
    have ih := cuts_join (ws := q :: r) (List.cons_ne_nil _ _) fun w m => h w (List.mem_cons_of_mem _ m)
    show TL.spl [32, 42, 32] 0 [] (p ++ ([32, 42, 32] ++ TL.joinL [32, 42, 32] (q :: r))) = p :: q :: r
    rw [TL.spl_part (by decide) (pre_mid (h p List.mem_cons_self))]
    rw [List.nil_append]
    congr 1
theorem rGo_ok : ∀ {ps acc : List Part}, (∀ p ∈ ps, POk p) → rGo (ps.map partL) acc = some (acc ++ ps)
  | [], acc, _ => by show some acc = _; simp
  | p :: r, acc, h => by
    show (match partOfT (partL p) with | none => none | some q => rGo (r.map partL) (acc ++ [q])) = _
    rw [part_read (h p List.mem_cons_self)]
    dsimp only
    rw [rGo_ok fun q m => h q (List.mem_cons_of_mem _ m)]
    simp
theorem rGo_bad : ∀ {ws : List (List Nat)} {acc : List Part}, (∃ w ∈ ws, partOfT w = none) → rGo ws acc = none
  | [], _, ⟨_, m, _⟩ => nomatch m
  | w :: r, acc, ⟨v, m, e⟩ => by
    show (match partOfT w with | none => none | some q => rGo r (acc ++ [q])) = none
    rcases List.mem_cons.mp m with rfl | m
    · rw [e]
    · cases partOfT w with
      | none => rfl
      | some q => exact rGo_bad ⟨v, m, e⟩
theorem join_more : ∀ (a : List (List Nat)) (x y : List Nat), TL.joinL [32, 42, 32] (a ++ [x]) ++ y = TL.joinL [32, 42, 32] (a ++ [x ++ y])
  | [], x, y => rfl
  | [p], x, y => by
    show (p ++ ([32, 42, 32] ++ x)) ++ y = p ++ ([32, 42, 32] ++ (x ++ y))
    simp
  | p :: q :: r, x, y => by
    have ih := join_more (q :: r) x y
    show (p ++ ([32, 42, 32] ++ TL.joinL [32, 42, 32] ((q :: r) ++ [x]))) ++ y = p ++ ([32, 42, 32] ++ TL.joinL [32, 42, 32] ((q :: r) ++ [x ++ y]))
    rw [← ih]
    simp
end T57

end

section
namespace T57
open PySem PySem.Spec PyProof.Rows L2 DL
theorem quot_ok {t u g : Int} (hgd : g = gcdI t u) (hg : 0 < g) : ∃ x y, t = g * x ∧ u = g * y ∧ t.fdiv g = x ∧ u.fdiv g = y ∧ gcdI x y = 1 := by
  obtain ⟨x, hx⟩ : g ∣ t := by rw [hgd]; exact Int.ofNat_dvd_left.mpr (Nat.gcd_dvd_left _ _)
  obtain ⟨y, hy⟩ : g ∣ u := by rw [hgd]; exact Int.ofNat_dvd_left.mpr (Nat.gcd_dvd_right _ _)
  refine ⟨x, y, hx, hy, by rw [hx, Int.mul_fdiv_cancel_left _ (by omega)], by rw [hy, Int.mul_fdiv_cancel_left _ (by omega)], ?_⟩
  have e1 : t.natAbs = g.natAbs * x.natAbs := by rw [hx, Int.natAbs_mul]
  have e2 : u.natAbs = g.natAbs * y.natAbs := by rw [hy, Int.natAbs_mul]
  unfold gcdI at hgd
  rw [e1, e2, Nat.gcd_mul_left] at hgd
  have h3 : g.natAbs = g.natAbs * Nat.gcd x.natAbs y.natAbs := by
    have := congrArg Int.natAbs hgd
    rwa [Int.natAbs_natCast] at this
  have h4 : Nat.gcd x.natAbs y.natAbs = 1 := by
    have hp : 0 < g.natAbs := by omega
    have : g.natAbs * Nat.gcd x.natAbs y.natAbs = g.natAbs * 1 := by omega
    exact Nat.eq_of_mul_eq_mul_left hp this
  unfold gcdI
  rw [h4]
  rfl
theorem fac_le {t g x : Int} (h : t = g * x) (hg : 0 < g) : x.natAbs ≤ t.natAbs := by
  rw [h, Int.natAbs_mul]
  exact Nat.le_mul_of_pos_left _ (by omega)
theorem fac_pos {t g x : Int} (h : t = g * x) (hg : 0 < g) (ht : 0 < t) : 1 ≤ x := by
  have : 0 < x := by
    refine Int.pos_of_mul_pos_right ?_ hg
    rw [← h]; exact ht
  omega
theorem ratio_ok (a b : Int) : ROk (mRatio a b) ∧ (mRatio a b).1 ≠ 0 := by
  have ht := mTop_ne a
  have hl := mTop_lt a
  have hb := mBot_b b
  have hg := gcdI_pos (b := mBot b) ht
  obtain ⟨x, y, h1, h2, h3, h4, h5⟩ := quot_ok (t := mTop a) (u := mBot b) rfl hg
  have l1 := fac_le h1 hg
  have l2 := fac_le h2 hg
  have l3 := fac_pos h2 hg (by omega)
  unfold ROk mRatio
  rw [h3, h4]
  refine ⟨⟨?_, l3, ?_, h5⟩, ?_⟩
  · show x.natAbs < 10 ^ 60
    omega
  · show y.natAbs < 10 ^ 60
    omega
  · intro z
    have z : x = 0 := z
    rw [z, Int.mul_zero] at h1
    exact ht h1
theorem within_ok {f : Form} {lo hi last : Int} (h1 : lo ≤ f.n ∧ f.n ≤ hi) (h2 : lo ≤ f.k ∧ f.k ≤ hi) (h3 : -last ≤ f.c ∧ f.c ≤ last) (h4 : lo < 0 ∨ 0 ≤ f.c) : mWithin f lo hi last = true := by
  have e1 : ¬ min f.n f.k < lo := by omega
  have e2 : ¬ max f.n f.k > hi := by omega
  have e3 : (f.c.natAbs : Int) ≤ last := by omega
  unfold mWithin
  rw [decide_eq_false e1, decide_eq_false e2, decide_eq_true e3]
  rcases h4 with h4 | h4
  · rw [decide_eq_true h4]; rfl
  · rw [decide_eq_true h4]; cases decide (lo < 0) <;> rfl
theorem lowOk_ok {l : Form} (h : l.n = 0 → 0 ≤ l.k) : mLowOk l = true := by
  unfold mLowOk
  by_cases c : l.n = 0
  · have : ¬ l.k < 0 := by have := h c; omega
    rw [decide_eq_false this, Bool.and_false]; rfl
  · rw [decide_eq_false c]; rfl
theorem low_ok {h f : Form} (a1 : 0 ≤ h.n ∧ h.n ≤ 3) (a2 : 0 ≤ h.k ∧ h.k ≤ 3) (a3 : 0 ≤ h.c ∧ h.c ≤ 9) (b1 : -3 ≤ f.n ∧ f.n ≤ 3) (b2 : -3 ≤ f.k ∧ f.k ≤ 3) (b3 : -9 ≤ f.c ∧ f.c ≤ 9) :
    mIsChoose h (mLow2 h (mLow1 f)) = true ∧ FOk (mLow2 h (mLow1 f)) := by
  have key : ∀ l : Form, (-3 ≤ l.n ∧ l.n ≤ 3) → (-3 ≤ l.k ∧ l.k ≤ 3) → (-9 ≤ l.c ∧ l.c ≤ 9) → (l.n = 0 → 0 ≤ l.k) → (l.n = h.n → l.k ≤ h.k) → mIsChoose h l = true ∧ FOk l := by
    intro l q0 q1 q4 q2 q3
    constructor
    · unfold mIsChoose
      rw [within_ok (by omega) (by omega) (by omega) (.inr a3.1), within_ok q0 q1 q4 (.inl (by decide)), lowOk_ok q2, lowOk_ok (l := mDiff h l) (by
        unfold mDiff
        dsimp only
        intro z
        have := q3 (by omega)
        omega)]
      rfl
    · unfold FOk
      refine ⟨?_, ?_, ?_⟩ <;> omega
  unfold mLow2 mLow1
  split
  · rename_i e
    split
    · rename_i e2
      exact key _ (by dsimp only; omega) (by dsimp only; omega) b3 (by dsimp only; omega) (by dsimp only; omega)
    · rename_i e2
      dsimp only at e2
      exact key _ (by dsimp only; omega) (by dsimp only; omega) b3 (by dsimp only; omega) (by dsimp only; omega)
  · rename_i e
    split
    · rename_i e2
      exact key _ (by dsimp only; omega) (by dsimp only; omega) b3 (by dsimp only; omega) (by dsimp only; omega)
    · rename_i e2
      exact key _ b1 b2 b3 (by omega) (by omega)
theorem high_b (a : Int) : (0 ≤ (mHigh a).n ∧ (mHigh a).n ≤ 3) ∧ (0 ≤ (mHigh a).k ∧ (mHigh a).k ≤ 3) ∧ (0 ≤ (mHigh a).c ∧ (mHigh a).c ≤ 9) := by
  unfold mHigh
  have h1 := fmod_lt (a := a) (b := 4) (by decide)
  have h2 := fmod_lt (a := a.fdiv 4) (b := 4) (by decide)
  have h3 := fmod_lt (a := a.fdiv 16) (b := 10) (by decide)
  dsimp only
  omega
theorem low0_b (a b : Int) : (-3 ≤ (mLow0 a b).n ∧ (mLow0 a b).n ≤ 3) ∧ (-3 ≤ (mLow0 a b).k ∧ (mLow0 a b).k ≤ 3) ∧ (-9 ≤ (mLow0 a b).c ∧ (mLow0 a b).c ≤ 9) := by
  obtain ⟨g1, g2, g3⟩ := high_b a
  unfold mLow0
  split
  · have h1 := fmod_lt (a := b) (b := (mHigh a).n + 1) (by omega)
    have h2 := fmod_lt (a := b.fdiv 4) (b := 3) (by decide)
    have h3 := fmod_lt (a := b.fdiv 12) (b := (mHigh a).c + 1) (by omega)
    dsimp only
    omega
  · have h1 := fmod_lt (a := b) (b := 7) (by decide)
    have h2 := fmod_lt (a := b.fdiv 7) (b := 7) (by decide)
    have h3 := fmod_lt (a := b.fdiv 49) (b := 19) (by decide)
    dsimp only
    omega
theorem cho_ok (a b : Int) : POk (.cho (mHigh a) (mLow a b)) := by
  obtain ⟨g1, g2, g3⟩ := high_b a
  obtain ⟨k1, k2, k3⟩ := low0_b a b
  obtain ⟨r1, r2⟩ := low_ok g1 g2 g3 k1 k2 k3
  refine ⟨?_, r2, r1⟩
  unfold FOk
  omega
theorem mPart_ok (c : Int × Int × Int) (m : Int) : POk (mPart c m) := by
  unfold mPart
  dsimp only
  split
  · exact cho_ok _ _
  · split
    · exact ratio_ok _ _
    · split
      · exact ratio_ok _ _
      · exact ⟨mNum_abs (by decide), mNum_abs (by decide), mNum_abs (by decide)⟩
theorem mGo_ok (s : List Int) : ∀ i, ∀ p ∈ (mGo s i).1, POk p
  | 0 => fun p m => nomatch m
  | i + 1 => fun p m => by
    rw [mGo_succ] at m
    rcases List.mem_append.mp m with m | m
    · exact mGo_ok s i p m
    · simp only [List.mem_cons, List.not_mem_nil, or_false] at m
      subst m
      exact mPart_ok _ _
def RdOk (ps : List Part) : Prop := ps ≠ [] ∧ ps.length ≤ 6 ∧ ∀ p ∈ ps, POk p
theorem mParts_ok (s : List Int) : RdOk (mParts s) := by
  have hm := fmod_lt (a := cellAt s 0) (b := 6) (by decide)
  have hl : (mParts s).length = mCount s := (mGo_len s _).1
  have hc : 1 ≤ mCount s ∧ mCount s ≤ 6 := by unfold mCount; omega
  refine ⟨fun z => ?_, by omega, mGo_ok s _⟩
  rw [z] at hl
  simp at hl
  omega
theorem sm60 {i : Int} (h : i.natAbs < 10 ^ 60) : Sm i := Nat.lt_trans h (by decide)
theorem fok_sm {f : Form} (h : FOk f) : FSm f := ⟨sm60 h.1, sm60 h.2.1, sm60 h.2.2⟩
theorem pok_sm {p : Part} (h : POk p) : PSm p := by
  cases p with
  | cho u l => exact ⟨fok_sm h.1, fok_sm h.2.1⟩
  | wei f => exact fok_sm h
  | pow r => exact ⟨sm60 h.1.1, sm60 h.1.2.2.1⟩
  | gro r => exact ⟨sm60 h.1.1, sm60 h.1.2.2.1⟩
theorem pok_pos {p : Part} (h : POk p) : RPos p := by
  cases p with
  | cho u l => trivial
  | wei f => trivial
  | pow r => exact h.1.2.1
  | gro r => exact h.1.2.1
theorem pok_val {p : Part} (h : POk p) : validP p = true := by
  cases p with
  | cho u l => exact h.2.2
  | wei f => rfl
  | pow r => show (!decide (r.1 = 0)) = true; simp [h.2]
  | gro r => show (!decide (r.1 = 0)) = true; simp [h.2]
theorem all_val {ps : List Part} (h : ∀ p ∈ ps, POk p) : ps.all validP = true := List.all_eq_true.mpr fun p m => pok_val (h p m)
theorem joinL_len (a : List Nat) : ∀ ws : List (List Nat), (TL.joinL a ws).length ≤ (ws.map List.length).sum + ws.length * a.length
  | [] => by simp [TL.joinL]
  | [p] => by simp [TL.joinL]
  | p :: q :: r => by
    have ih := joinL_len a (q :: r)
    show (p ++ (a ++ TL.joinL a (q :: r))).length ≤ _
    rw [List.length_append, List.length_append, List.map_cons, List.sum_cons, List.length_cons, Nat.succ_mul]
    omega
theorem joinL_mem (a : List Nat) : ∀ (ws : List (List Nat)) (c : Nat), c ∈ TL.joinL a ws → c ∈ a ∨ ∃ w ∈ ws, c ∈ w
  | [], c, m => by simp [TL.joinL] at m
  | [p], c, m => .inr ⟨p, List.mem_cons_self, by simpa [TL.joinL] using m⟩
  | p :: q :: r, c, m => by
    have m : c ∈ p ++ (a ++ TL.joinL a (q :: r)) := m
    rcases List.mem_append.mp m with m | m
    · exact .inr ⟨p, List.mem_cons_self, m⟩
    · rcases List.mem_append.mp m with m | m
      · exact .inl m
      · rcases joinL_mem a (q :: r) c m with m | ⟨w, hw, m⟩
        · exact .inl m
        · exact .inr ⟨w, List.mem_cons_of_mem _ hw, m⟩
theorem term_len {ps : List Part} (h : RdOk ps) : (termL ps).length ≤ 20000 := by
  have h1 := joinL_len [32, 42, 32] (ps.map partL)
  have hsum := sum_le (ws := ps.map partL) (B := 2100) fun w m => by
    obtain ⟨p, hp', rfl⟩ := List.mem_map.mp m
    exact part_len (pok_sm (h.2.2 p hp'))
  have h3 : (ps.map partL).length ≤ 6 := by simpa using h.2.1
  have : (ps.map partL).length * 2100 ≤ 6 * 2100 := Nat.mul_le_mul_right _ h3
  unfold termL
  simp only [List.length_cons, List.length_nil] at h1
  omega
theorem term_uni {ps : List Part} : Uni (termL ps) := fun c m => by
  rcases joinL_mem _ _ c m with m | ⟨w, hw, m⟩
  · simp at m
    rcases m with rfl | rfl | rfl <;> decide
  · obtain ⟨p, hp, rfl⟩ := List.mem_map.mp hw
    exact part_uni p c m
theorem cuts_term {ps : List Part} (h : RdOk ps) : cutsT (termL ps) = ps.map partL := cuts_join (fun z => h.1 (List.map_eq_nil_iff.mp z)) fun w m => by
  obtain ⟨p, hp, rfl⟩ := List.mem_map.mp m
  exact part_star p
theorem rgo_term {ps : List Part} (h : RdOk ps) : rGo (cutsT (termL ps)) [] = some ps := by
  rw [cuts_term h, rGo_ok h.2.2]
  rfl
theorem termOut_ok {ps : List Part} (h : RdOk ps) : termOut ps = .ok (termI ps) := by
  unfold termOut
  rw [if_neg]
  rintro (z | z | z)
  · exact h.1 z
  · have := h.2.1; omega
  · rw [all_val h.2.2] at z; cases z
theorem read_ok {ps : List Part} (h : RdOk ps) : readT (termL ps) = .ok (termI ps) := by
  unfold readT
  rw [rgo_term h]
  exact termOut_ok h
theorem read_pre {ps : List Part} (h : RdOk ps) : FS_read_term.pre (termL ps) := by
  refine ⟨?_, term_uni, fun qs e => .inr ?_⟩
  · have := term_len h
    unfold Short
    omega
  · rw [rgo_term h] at e
    cases e
    exact all_val h.2.2
theorem ref_none {ps : List Part} (h : RdOk ps) : rGo (cutsT (termL ps ++ [32])) [] = none := by
  obtain ⟨a, x, rfl⟩ : ∃ a x, ps = a ++ [x] := ⟨ps.dropLast, ps.getLast h.1, (List.dropLast_concat_getLast h.1).symm⟩
  have e : termL (a ++ [x]) ++ [32] = TL.joinL [32, 42, 32] (a.map partL ++ [partL x ++ [32]]) := by
    unfold termL
    rw [List.map_append]
    exact join_more _ _ _
  rw [e, cuts_join (by simp) (fun w m => by
    rcases List.mem_append.mp m with m | m
    · obtain ⟨p, hp, rfl⟩ := List.mem_map.mp m
      exact part_star p
    · simp only [List.mem_cons, List.not_mem_nil, or_false] at m
      subst m
      intro z
      rcases List.mem_append.mp z with z | z
      · exact part_star x z
      · simp at z)]
  exact rGo_bad ⟨_, List.mem_append_right _ List.mem_cons_self, part_bad _⟩
theorem ref_out {ps : List Part} (h : RdOk ps) : readT (termL ps ++ [32]) = .error "NoTerm" := by
  unfold readT
  rw [ref_none h]
theorem ref_pre {ps : List Part} (h : RdOk ps) : FS_read_term.pre (termL ps ++ [32]) := by
  refine ⟨?_, fun c m => ?_, fun qs e => ?_⟩
  · have := term_len h
    have e : (termL ps ++ [32]).length = (termL ps).length + 1 := by rw [List.length_append]; rfl
    show (termL ps ++ [32]).length ≤ 1000000
    omega
  · rcases List.mem_append.mp m with m | m
    · exact term_uni c m
    · simp at m; subst m; decide
  · have e : rGo (cutsT (termL ps ++ [32])) [] = some qs := e
    rw [ref_none h] at e
    cases e
theorem ev_isi {ρ : DEnv} {t : DTE} {d : D} {b : Bool} {f : D → Option Bool} (h : Ev t ρ d ρ) (hf : f d = some b) : Ev (dIsi f t) ρ (.bl b) ρ := fun Q E k => h _ _ ⟨b, hf, k⟩
theorem s_clear {ρ : DEnv} {i : Nat} {ds : List D} {w : DTS} {DD : DEnds} (hn : nth ρ i = .ow (.lst ds)) (k : w DD (ρ.set i (.ow (.lst [])))) : dSeq (dClear i) w DD ρ := by
  unfold dSeq dClear
  rw [hn]
  exact k
theorem ev_told {ρ : DEnv} {k : Nat} {ps : List Part} (h : nth ρ k = .sh (termI ps)) : Ev (dMeth "Term" "told" FS_Term_told (dVar k) dNilA) ρ (.lst (ps.map pD)) ρ := ev_meth (C := "Term") (fs := [("made", .lst (ps.map partI)), ("words", .lst (ps.map pD))]) (S := FS_Term_told) (ds := []) (ev_vari h) (by rfl) (fun Q E h => h) ps rfl trivial rfl
theorem eq_ps {ps : List Part} {P : D → Prop} (h : P (.bl true)) : eqD (.lst (ps.map pD)) (.lst (ps.map pD)) P := eq_lst okN_ps.ok okN_ps.ok (eqv_self _ okN_ps.1) h
theorem ne_ps {ps : List Part} {P : D → Prop} (h : P (.bl false)) : neD (.lst (ps.map pD)) (.lst (ps.map pD)) P := ne_lst okN_ps.ok okN_ps.ok (eqv_self _ okN_ps.1) h
theorem eq_sx {a : Str} {P : D → Prop} (h : P (.bl true)) : eqD (.str a) (.str a) P := by
  show P (.bl (decide (a = a)))
  rw [decide_eq_true rfl]
  exact h
theorem ne_sx {a : Str} {P : D → Prop} (h : P (.bl false)) : neD (.str a) (.str a) P := by
  show P (.bl (!decide (a = a)))
  rw [decide_eq_true rfl]
  exact h
def N__law_read : List Str := ["_law_line", "_law_parts_here", "_law_found", "_law_told"]
def d__law_read : DTS :=
  (dSeq (dSet 2 (dCall FS_read_term (dCons (dVar 0) dNil)))
  (dSeq (dIfS (dNotT (dTru (dIsi (isiC "Term") (dBor 2)))) (dRet (dC (.bl false))) dNext)
  (dSeq (dOwn 3 (dMeth "Term" "told" FS_Term_told (dVar 2) dNilA))
  (dSeq (dIfS (dOrT (dNotT (dTru (dIsi (isiTy "list") (dBor 3)))) (dTest (dOp neD (dBor 3) (dBor 1)))) (dRet (dC (.bl false))) dNext)
  (dSeq (dClear 3)
  (dRet (dOp eqD (dMeth "Term" "told" FS_Term_told (dVar 2) dNilA) (dBor 1))))))))
def FS__law_read : FS := { α := List Part, args := fun ps => [.str (S (termL ps)), .lst (ps.map pD)], pre := RdOk, out := fun _ => .ok (.bl true) }
theorem hm__law_read : ∀ a, FS__law_read.pre a → d__law_read (DDof false (FS__law_read.out a)) (dstart N__law_read (FS__law_read.args a)) := by
  intro (ps : List Part) hh
  have hh : RdOk ps := hh
  unfold d__law_read FS__law_read N__law_read
  dsimp only [dstart, istart, List.map_cons, List.map_nil, List.length_cons, List.length_nil, Nat.reduceAdd, Nat.reduceSub, List.replicate_succ, List.replicate_zero, List.cons_append, List.nil_append, List.tail_cons]
  refine s_set (ev_call (S := FS_read_term) (termL ps) (eva_cons (ev_vari rfl) eva_nil) (read_pre hh) (read_ok hh)) ?_
  refine s_ifF (evt_not (b := true) (evt_tru (ev_isi (ev_bori rfl) (by rfl)))) ?_
  apply s_next
  refine s_own (ev_told rfl) ?_
  refine s_ifF (evt_or (b := false) (b2 := false) (evt_not (b := true) (evt_tru (ev_isi (ev_borO rfl) (by rfl)))) fun _ => evt_test (ev_op (ev_borO rfl) (ev_bori rfl) fun P hP => ne_ps hP)) ?_
  apply s_next
  refine s_clear rfl ?_
  refine e_ret (ev_op (ev_told rfl) (ev_bori rfl) fun P hP => eq_ps hP) ?_
  rfl
def N__law_refused : List Str := ["_law_line", "_law_refused_here"]
def d__law_refused : DTS :=
  (dSeq (dSet 1 (dC (.bl false)))
  (dSeq (dTry [("NoTerm", true)] (dDrop (dCall FS_read_term (dCons (dVar 0) dNil))) (dSet 1 (dC (.bl true))))
  (dRet (dVar 1))))
def FS__law_refused : FS := { α := List Part, args := fun ps => [.str (S (termL ps ++ [32]))], pre := RdOk, out := fun _ => .ok (.bl true) }
theorem hm__law_refused : ∀ a, FS__law_refused.pre a → d__law_refused (DDof false (FS__law_refused.out a)) (dstart N__law_refused (FS__law_refused.args a)) := by
  intro (ps : List Part) hh
  have hh : RdOk ps := hh
  unfold d__law_refused FS__law_refused N__law_refused
  dsimp only [dstart, istart, List.map_cons, List.map_nil, List.length_cons, List.length_nil, Nat.reduceAdd, Nat.reduceSub, List.replicate_succ, List.replicate_zero, List.cons_append, List.nil_append, List.tail_cons]
  refine s_set ev_c ?_
  have hv : EvA (dCons (dVar 0) dNil) [.sh (.str (S (termL ps ++ [32]))), .sh (.bl false)] [.str (S (termL ps ++ [32]))] [.sh (.str (S (termL ps ++ [32]))), .sh (.bl false)] := eva_cons (ev_vari (ρ := [.sh (.str (S (termL ps ++ [32]))), .sh (.bl false)]) (i := 0) rfl) eva_nil
  refine (ev_callX (S := FS_read_term) (termL ps ++ [32]) hv (ref_pre hh) (ref_out hh)) _ _ ?_
  have e : List.lookup ("NoTerm" : Str) [(("NoTerm" : Str), true)] = some true := by
    rw [List.lookup_cons, beq_self_eq_true]
  dsimp only
  rw [e]
  simp only [dSeq, dNext, dSet, dOwn, dRet, dRetN, dIfS, dDrop, dAsg, dPar, dAug, dSetIx, dApp, dClear, dRaise, dTest, dTru, truD, dAndT, dOrT, dNotT, dIf, dAndV, dOrV, dNotV, dOp, dUn, dCB, dBM, dNilA, dVar, dBor, dGive, dC, dCons, dNil, dTup, dLst, dSl, dPart, dNoPart, dIsi, nth, dstart, istart, dFld, dFldSet, putD, dgName, dgTup, dgCons, dgNil, dItL, dItT, dItS, dItR1, dItR2, dItE, dItZ, dYes, dMeth, dOr, Ends2, addD, iaddD, imulD, subD, mulD, fdivD, modD, powD, cmpD, eqD, neD, isD, isNotD, negD, absD, lenD, max2D, min2D, DL.intD, strD, tupleD, listD, catD, repD, slD, slDL, ixD, inSD, notInSD, startswithD, endswithD, findD, isdigitD, splitD, partitionD, joinD, lstripD, List.map_cons, List.map_nil, List.length_cons, List.length_nil, List.cons_append, List.nil_append, List.set_cons_zero, List.set_cons_succ, Nat.reduceAdd, Nat.reduceSub, List.replicate_succ, List.replicate_zero, List.tail_cons, Bool.false_eq_true, if_true, if_false, ite_true, ite_false, reduceIte, true_and, and_true, Bool.not_true, Bool.not_false, decide_eq_true_eq, Bool.not_eq_true', decide_eq_false_iff_not, ne_eq, reduceCtorEq, not_false_eq_true, DL.MulOk, at_0, at_1, at_2, Option.some.injEq, exists_eq_left, exists_eq_left', Int.reduceAdd, Int.reduceSub, Int.reduceMul, Int.reduceNeg, Int.reduceToNat, Int.reduceEq, Int.reduceLT, Int.reduceLE, Nat.reduceLeDiff, Nat.reduceLT, Nat.reduceEqDiff, sizeLine_eq]
end T57

end

section
namespace T57
open PySem PySem.Spec PyProof.Rows L2 DL
theorem p60 : CPowD 10 60 := ⟨by decide, by decide, by decide⟩
theorem p59 : CPowD 10 59 := ⟨by decide, by decide, by decide⟩
theorem ev_num {ρ : DEnv} {t u : DTE} {c m : Int} (h : Ev t ρ (.int c) ρ) (hu : Ev u ρ (.int m) ρ) (h1 : 1 ≤ m) (h2 : m < 2 ^ 250) : Ev (dCall FS__law_number (dCons t (dCons u dNil))) ρ (.int (mNum c m)) ρ := ev_call (S := FS__law_number) (c, m) (eva_cons h (eva_cons hu eva_nil)) ⟨h1, h2⟩ rfl
theorem ev_p60 {ρ : DEnv} : Ev (dOp powD (dC (.int 10)) (dC (.int 60))) ρ (.int (10 ^ 60)) ρ := fun Q E h => by
  simp only [dSeq, dNext, dSet, dOwn, dRet, dRetN, dIfS, dDrop, dAsg, dPar, dAug, dSetIx, dApp, dClear, dRaise, dTest, dTru, truD, dAndT, dOrT, dNotT, dIf, dAndV, dOrV, dNotV, dOp, dUn, dCB, dBM, dNilA, dVar, dBor, dGive, dC, dCons, dNil, dTup, dLst, dSl, dPart, dNoPart, dIsi, nth, dstart, istart, dFld, dFldSet, putD, dgName, dgTup, dgCons, dgNil, dItL, dItT, dItS, dItR1, dItR2, dItE, dItZ, dYes, dMeth, dOr, Ends2, addD, iaddD, imulD, subD, mulD, fdivD, modD, powD, cmpD, eqD, neD, isD, isNotD, negD, absD, lenD, max2D, min2D, DL.intD, strD, tupleD, listD, catD, repD, slD, slDL, ixD, inSD, notInSD, startswithD, endswithD, findD, isdigitD, splitD, partitionD, joinD, lstripD, List.map_cons, List.map_nil, List.length_cons, List.length_nil, List.cons_append, List.nil_append, List.set_cons_zero, List.set_cons_succ, Nat.reduceAdd, Nat.reduceSub, List.replicate_succ, List.replicate_zero, List.tail_cons, Bool.false_eq_true, if_true, if_false, ite_true, ite_false, reduceIte, true_and, and_true, Bool.not_true, Bool.not_false, decide_eq_true_eq, Bool.not_eq_true', decide_eq_false_iff_not, ne_eq, reduceCtorEq, not_false_eq_true, DL.MulOk, at_0, at_1, at_2, Option.some.injEq, exists_eq_left, exists_eq_left', Int.reduceAdd, Int.reduceSub, Int.reduceMul, Int.reduceNeg, Int.reduceToNat, Int.reduceEq, Int.reduceLT, Int.reduceLE, Nat.reduceLeDiff, Nat.reduceLT, Nat.reduceEqDiff, sizeLine_eq, p60]
  exact h
theorem ev_p59 {ρ : DEnv} : Ev (dOp powD (dC (.int 10)) (dC (.int 59))) ρ (.int (10 ^ 59)) ρ := fun Q E h => by
  simp only [dSeq, dNext, dSet, dOwn, dRet, dRetN, dIfS, dDrop, dAsg, dPar, dAug, dSetIx, dApp, dClear, dRaise, dTest, dTru, truD, dAndT, dOrT, dNotT, dIf, dAndV, dOrV, dNotV, dOp, dUn, dCB, dBM, dNilA, dVar, dBor, dGive, dC, dCons, dNil, dTup, dLst, dSl, dPart, dNoPart, dIsi, nth, dstart, istart, dFld, dFldSet, putD, dgName, dgTup, dgCons, dgNil, dItL, dItT, dItS, dItR1, dItR2, dItE, dItZ, dYes, dMeth, dOr, Ends2, addD, iaddD, imulD, subD, mulD, fdivD, modD, powD, cmpD, eqD, neD, isD, isNotD, negD, absD, lenD, max2D, min2D, DL.intD, strD, tupleD, listD, catD, repD, slD, slDL, ixD, inSD, notInSD, startswithD, endswithD, findD, isdigitD, splitD, partitionD, joinD, lstripD, List.map_cons, List.map_nil, List.length_cons, List.length_nil, List.cons_append, List.nil_append, List.set_cons_zero, List.set_cons_succ, Nat.reduceAdd, Nat.reduceSub, List.replicate_succ, List.replicate_zero, List.tail_cons, Bool.false_eq_true, if_true, if_false, ite_true, ite_false, reduceIte, true_and, and_true, Bool.not_true, Bool.not_false, decide_eq_true_eq, Bool.not_eq_true', decide_eq_false_iff_not, ne_eq, reduceCtorEq, not_false_eq_true, DL.MulOk, at_0, at_1, at_2, Option.some.injEq, exists_eq_left, exists_eq_left', Int.reduceAdd, Int.reduceSub, Int.reduceMul, Int.reduceNeg, Int.reduceToNat, Int.reduceEq, Int.reduceLT, Int.reduceLE, Nat.reduceLeDiff, Nat.reduceLT, Nat.reduceEqDiff, sizeLine_eq, p59]
  exact h
def smX (a : Int) : Int := mNum a (10 ^ 60)
def smY (b : Int) : Int := mNum b (10 ^ 59)
def smF (x y : Int) : List Form := [⟨x, y, 0⟩, ⟨0, x, y⟩, ⟨y, 0, x⟩, ⟨x, y, x⟩]
theorem sm_of {i : Int} (h : i.natAbs ≤ 10 ^ 60) : Sm i := Nat.lt_of_le_of_lt h (by decide)
theorem smF_ok {x y : Int} (hx : Sm x) (hy : Sm y) : ∀ f ∈ smF x y, FSm f := fun f m => by
  have h0 : Sm 0 := sm_of (by decide)
  unfold smF at m
  simp only [List.mem_cons, List.not_mem_nil, or_false] at m
  rcases m with rfl | rfl | rfl | rfl
  · exact ⟨hx, hy, h0⟩
  · exact ⟨h0, hx, hy⟩
  · exact ⟨hy, h0, hx⟩
  · exact ⟨hx, hy, hx⟩
def N__law_small : List Str := ["_law_one", "_law_other", "_law_a", "_law_b", "_law_form", "_law_line", "_law_by", "_law_fraction"]
def d__law_small : DTS :=
  (dSeq (dSet 2 (dCall FS__law_number (dCons (dVar 0) (dCons (dOp powD (dC (.int 10)) (dC (.int 60))) dNil))))
  (dSeq (dSet 3 (dCall FS__law_number (dCons (dVar 1) (dCons (dOp powD (dC (.int 10)) (dC (.int 59))) dNil))))
  (dSeq (dFor (dItL (dLst (dCons (dTup (dCons (dVar 2) (dCons (dVar 3) (dCons (dC (.int 0)) dNil)))) (dCons (dTup (dCons (dC (.int 0)) (dCons (dVar 2) (dCons (dVar 3) dNil)))) (dCons (dTup (dCons (dVar 3) (dCons (dC (.int 0)) (dCons (dVar 2) dNil)))) (dCons (dTup (dCons (dVar 2) (dCons (dVar 3) (dCons (dVar 2) dNil)))) dNil)))))) (dgName 4) (dSeq (dSet 5 (dCall FS_show_form (dCons (dVar 4) dNil)))
  (dIfS (dOrT (dNotT (dTru (dIsi (isiTy "str") (dBor 5)))) (dTest (dOp neD (dBor 5) (dCall FS__law_form_text (dCons (dVar 4) dNil))))) (dRet (dC (.bl false))) dNext)))
  (dSeq (dSet 6 (dCall FS__law_divisor (dCons (dVar 2) (dCons (dOp addD (dCB absD (dCons (dBor 3) dNil)) (dC (.int 1))) dNil))))
  (dSeq (dSet 7 (dTup (dCons (dOp fdivD (dBor 2) (dBor 6)) (dCons (dOp fdivD (dOp addD (dCB absD (dCons (dBor 3) dNil)) (dC (.int 1))) (dBor 6)) dNil))))
  (dSeq (dSet 5 (dCall FS_show_ratio (dCons (dVar 7) dNil)))
  (dRet (dAndV (dIsi (isiTy "str") (dBor 5)) (dOp eqD (dBor 5) (dCall FS__law_ratio_text (dCons (dVar 7) dNil)))))))))))
def FS__law_small : FS := { α := Int × Int, args := fun a => [.int a.1, .int a.2], pre := fun _ => True, out := fun _ => .ok (.bl true) }
theorem ev_form {ρ : DEnv} {a b c : DTE} {x y z : Int} (ha : Ev a ρ (.int x) ρ) (hb : Ev b ρ (.int y) ρ) (hc : Ev c ρ (.int z) ρ) : Ev (dTup (dCons a (dCons b (dCons c dNil)))) ρ (fD ⟨x, y, z⟩) ρ := ev_tup (eva_cons ha (eva_cons hb (eva_cons hc eva_nil))) (show (3 : Nat) ≤ sizeLine by decide)
theorem hm__law_small : ∀ a, FS__law_small.pre a → d__law_small (DDof false (FS__law_small.out a)) (dstart N__law_small (FS__law_small.args a)) := by
  rintro ⟨a, b⟩ _
  unfold d__law_small FS__law_small N__law_small
  dsimp only [dstart, istart, List.map_cons, List.map_nil, List.length_cons, List.length_nil, Nat.reduceAdd, Nat.reduceSub, List.replicate_succ, List.replicate_zero, List.cons_append, List.nil_append, List.tail_cons]
  have hx : Sm (smX a) := sm_of (Nat.le_of_lt (mNum_abs (by decide)))
  have hyl : (smY b).natAbs < 10 ^ 59 := mNum_abs (by decide)
  have hy : Sm (smY b) := sm_of (by omega)
  refine s_set (d := .int (smX a)) (ev_num (ev_vari rfl) ev_p60 (by decide) (by decide)) ?_
  refine s_set (d := .int (smY b)) (ev_num (ev_vari rfl) ev_p59 (by decide) (by decide)) ?_
  generalize smX a = x at *
  generalize smY b = y at *
  refine for_i ((smF x y).map fD) (fun i ρ => ∃ s1 s2, ρ = [.sh (.int a), .sh (.int b), .sh (.int x), .sh (.int y), s1, s2, .em, .em]) (fun Q h => ?_) ⟨_, _, rfl⟩ ?_ ?_
  · refine (ev_lst (eva_cons (ev_form (ev_vari rfl) (ev_vari rfl) ev_c) (eva_cons (ev_form ev_c (ev_vari rfl) (ev_vari rfl)) (eva_cons (ev_form (ev_vari rfl) ev_c (ev_vari rfl)) (eva_cons (ev_form (ev_vari rfl) (ev_vari rfl) (ev_vari rfl)) eva_nil)))) (show (4 : Nat) ≤ sizeLine by decide)) _ _ ?_
    exact h
  · rintro i d ρ hd ⟨s1, s2, rfl⟩
    obtain ⟨f, hf, rfl⟩ := List.mem_map.mp (List.mem_of_getElem? hd)
    have hF := smF_ok hx hy f hf
    apply g_name
    refine s_set (ev_call (S := FS_show_form) f (eva_cons (ev_vari rfl) eva_nil) hF rfl) ?_
    apply toSeq
    refine s_ifF (evt_or (b := false) (b2 := false) (evt_not (b := true) (evt_tru (ev_isi (ev_bori rfl) (by rfl)))) fun _ => evt_test (ev_op (ev_bori rfl) (ev_call (S := FS__law_form_text) f (eva_cons (ev_vari rfl) eva_nil) hF rfl) fun P hP => ne_sx hP)) ?_
    apply s_next
    exact ⟨_, _, rfl⟩
  · rintro ρ ⟨s1, s2, rfl⟩
    dsimp only
    have ea : ∀ {ρ : DEnv}, nth ρ 3 = .sh (.int y) → Ev (dOp addD (dCB absD (dCons (dBor 3) dNil)) (dC (.int 1))) ρ (.int ((y.natAbs : Int) + 1)) ρ := fun h => ev_op (ev_abs (ev_bori h)) ev_c fun P hP => hP
    refine s_set (ev_call (S := FS__law_divisor) (x, (y.natAbs : Int) + 1) (eva_cons (ev_vari rfl) (eva_cons (ea rfl) eva_nil)) trivial rfl) ?_
    have hg : 0 < gcdI x ((y.natAbs : Int) + 1) := by
      unfold gcdI
      have := Nat.gcd_pos_of_pos_right x.natAbs (show 0 < ((y.natAbs : Int) + 1).natAbs by omega)
      omega
    have hgl : (gcdI x ((y.natAbs : Int) + 1)).natAbs ≤ 10 ^ 60 := by
      unfold gcdI
      have := Nat.gcd_le_right x.natAbs (show 0 < ((y.natAbs : Int) + 1).natAbs by omega)
      omega
    obtain ⟨u, v, h1, h2, h3, h4, h5⟩ := quot_ok (t := x) (u := (y.natAbs : Int) + 1) rfl hg
    have l1 := fac_le h1 hg
    have l2 := fac_le h2 hg
    have l3 := fac_pos h2 hg (by omega)
    have sv : Sm v := sm_of (by omega)
    have su : Sm u := Nat.lt_of_le_of_lt l1 hx
    generalize gcdI x ((y.natAbs : Int) + 1) = g at *
    have dg : ∀ c : Int, Builtin.divisionGoesByPylong c g = false := fun c => div_small (by
      have : (10 ^ 60 : Nat) < 2 ^ 250 := by decide
      omega)
    have n0 : ¬ g = 0 := by omega
    refine s_set (d := rD (u, v)) (ev_tup (eva_cons (ev_op (ev_bori rfl) (ev_bori rfl) fun P hP => ?_) (eva_cons (ev_op (ea rfl) (ev_bori rfl) fun P hP => ?_) eva_nil)) (show (2 : Nat) ≤ sizeLine by decide)) ?_
    · simp only [dSeq, dNext, dSet, dOwn, dRet, dRetN, dIfS, dDrop, dAsg, dPar, dAug, dSetIx, dApp, dClear, dRaise, dTest, dTru, truD, dAndT, dOrT, dNotT, dIf, dAndV, dOrV, dNotV, dOp, dUn, dCB, dBM, dNilA, dVar, dBor, dGive, dC, dCons, dNil, dTup, dLst, dSl, dPart, dNoPart, dIsi, nth, dstart, istart, dFld, dFldSet, putD, dgName, dgTup, dgCons, dgNil, dItL, dItT, dItS, dItR1, dItR2, dItE, dItZ, dYes, dMeth, dOr, Ends2, addD, iaddD, imulD, subD, mulD, fdivD, modD, powD, cmpD, eqD, neD, isD, isNotD, negD, absD, lenD, max2D, min2D, DL.intD, strD, tupleD, listD, catD, repD, slD, slDL, ixD, inSD, notInSD, startswithD, endswithD, findD, isdigitD, splitD, partitionD, joinD, lstripD, List.map_cons, List.map_nil, List.length_cons, List.length_nil, List.cons_append, List.nil_append, List.set_cons_zero, List.set_cons_succ, Nat.reduceAdd, Nat.reduceSub, List.replicate_succ, List.replicate_zero, List.tail_cons, Bool.false_eq_true, if_true, if_false, ite_true, ite_false, reduceIte, true_and, and_true, Bool.not_true, Bool.not_false, decide_eq_true_eq, Bool.not_eq_true', decide_eq_false_iff_not, ne_eq, reduceCtorEq, not_false_eq_true, DL.MulOk, at_0, at_1, at_2, Option.some.injEq, exists_eq_left, exists_eq_left', Int.reduceAdd, Int.reduceSub, Int.reduceMul, Int.reduceNeg, Int.reduceToNat, Int.reduceEq, Int.reduceLT, Int.reduceLE, Nat.reduceLeDiff, Nat.reduceLT, Nat.reduceEqDiff, sizeLine_eq, CFdiv, dg]
      rw [h3]
      exact ⟨n0, hP⟩
    · simp only [dSeq, dNext, dSet, dOwn, dRet, dRetN, dIfS, dDrop, dAsg, dPar, dAug, dSetIx, dApp, dClear, dRaise, dTest, dTru, truD, dAndT, dOrT, dNotT, dIf, dAndV, dOrV, dNotV, dOp, dUn, dCB, dBM, dNilA, dVar, dBor, dGive, dC, dCons, dNil, dTup, dLst, dSl, dPart, dNoPart, dIsi, nth, dstart, istart, dFld, dFldSet, putD, dgName, dgTup, dgCons, dgNil, dItL, dItT, dItS, dItR1, dItR2, dItE, dItZ, dYes, dMeth, dOr, Ends2, addD, iaddD, imulD, subD, mulD, fdivD, modD, powD, cmpD, eqD, neD, isD, isNotD, negD, absD, lenD, max2D, min2D, DL.intD, strD, tupleD, listD, catD, repD, slD, slDL, ixD, inSD, notInSD, startswithD, endswithD, findD, isdigitD, splitD, partitionD, joinD, lstripD, List.map_cons, List.map_nil, List.length_cons, List.length_nil, List.cons_append, List.nil_append, List.set_cons_zero, List.set_cons_succ, Nat.reduceAdd, Nat.reduceSub, List.replicate_succ, List.replicate_zero, List.tail_cons, Bool.false_eq_true, if_true, if_false, ite_true, ite_false, reduceIte, true_and, and_true, Bool.not_true, Bool.not_false, decide_eq_true_eq, Bool.not_eq_true', decide_eq_false_iff_not, ne_eq, reduceCtorEq, not_false_eq_true, DL.MulOk, at_0, at_1, at_2, Option.some.injEq, exists_eq_left, exists_eq_left', Int.reduceAdd, Int.reduceSub, Int.reduceMul, Int.reduceNeg, Int.reduceToNat, Int.reduceEq, Int.reduceLT, Int.reduceLE, Nat.reduceLeDiff, Nat.reduceLT, Nat.reduceEqDiff, sizeLine_eq, CFdiv, dg]
      rw [h4]
      exact ⟨n0, hP⟩
    refine s_set (ev_call (S := FS_show_ratio) (u, v) (eva_cons (ev_vari rfl) eva_nil) ⟨su, sv⟩ rfl) ?_
    refine e_ret (d := .bl true) (fun Q E h => ?_) rfl
    refine (ev_isi (ev_bori rfl) (b := true) (by rfl)) _ _ ?_
    refine (ev_op (ev_bori rfl) (ev_call (S := FS__law_ratio_text) (u, v) (eva_cons (ev_vari rfl) eva_nil) ⟨su, sv, l3⟩ rfl) fun P hP => eq_sx hP) _ _ ?_
    exact h
end T57

end

section
namespace T57
open PySem PySem.Spec PyProof.Rows L2 DL
theorem form0 : formL ⟨0, 0, 0⟩ = [48] := by rfl
theorem rd_one {p : Part} (h : POk p) : RdOk [p] := ⟨List.cons_ne_nil _ _, (show (1 : Nat) ≤ 6 by decide), fun q m => by
  simp only [List.mem_cons, List.not_mem_nil, or_false] at m
  subst m
  exact h⟩
theorem s_ofL {ρ : DEnv} {k : Nat} {a : List Nat} {d : D} (h : nth ρ k = .sh (.str (S a))) : Ev (dBor k) ρ (.str (S a)) ρ := ev_bori h
def N_law : List Str := ["_law_script", "_law_parts_here", "_law_term", "_law_due", "_law_line", "_law_k", "_law_part_here"]
def d_law : DTS :=
  (dSeq (dSet 1 (dCall FS__law_parts (dCons (dVar 0) (dCons (dLst (dCons (dC (.int 3)) (dCons (dC (.int 3)) (dCons (dC (.int 3)) (dCons (dC (.int 3)) (dCons (dC (.int 3)) (dCons (dC (.int 3)) dNil))))))) dNil))))
  (dSeq (dSet 2 (dCall FS_Term___init__ (dCons (dCB listD (dCons (dBor 1) dNil)) dNil)))
  (dSeq (dSet 3 (dBM joinD (dC (.str " * ")) (dCons (dLc (dItL (dVar 1)) (dgName 6) dYes (dCall FS__law_part_text (dCons (dVar 6) dNil)) [6]) dNil)))
  (dSeq (dSet 4 (dCall FS_show_term (dCons (dVar 2) dNil)))
  (dSeq (dIfS (dOrT (dNotT (dTru (dIsi (isiTy "str") (dBor 4)))) (dOrT (dTest (dOp neD (dBor 4) (dBor 3))) (dNotT (dTru (dCall FS__law_read (dCons (dVar 4) (dCons (dVar 1) dNil))))))) (dRet (dC (.bl false))) dNext)
  (dSeq (dFor (dItR2 (dCons (dC (.int 19)) (dCons (dOp subD (dCB min2D (dCons (dCB lenD (dCons (dBor 0) dNil)) (dCons (dC (.int 63)) dNil))) (dC (.int 1))) dNil))) (dgName 5) (dIfS (dNotT (dTru (dCall FS__law_small (dCons (dOp ixD (dBor 0) (dBor 5)) (dCons (dOp ixD (dBor 0) (dOp addD (dBor 5) (dC (.int 1)))) dNil))))) (dRet (dC (.bl false))) dNext))
  (dSeq (dIfS (dOrT (dTest (dOp neD (dCall FS_show_form (dCons (dTup (dCons (dC (.int 0)) (dCons (dC (.int 0)) (dCons (dC (.int 0)) dNil)))) dNil)) (dC (.str "0")))) (dOrT (dNotT (dTru (dCall FS__law_refused (dCons (dOp addD (dBor 4) (dC (.str " "))) dNil)))) (dNotT (dTru (dCall FS__law_read (dCons (dVar 3) (dCons (dVar 1) dNil))))))) (dRet (dC (.bl false))) dNext)
  (dSeq (dFor (dItL (dVar 1)) (dgName 6) (dIfS (dNotT (dTru (dCall FS__law_read (dCons (dCall FS__law_part_text (dCons (dVar 6) dNil)) (dCons (dLst (dCons (dVar 6) dNil)) dNil))))) (dRet (dC (.bl false))) dNext))
  (dRet (dAndV (dOp eqD (dCall FS_show_term (dCons (dVar 2) dNil)) (dBor 3)) (dOp eqD (dMeth "Term" "told" FS_Term_told (dVar 2) dNilA) (dBor 1))))))))))))
def FS_law : FS := { α := List Int, args := fun ns => [.fz (ns.map D.int)], pre := fun ns => ns.length ≤ 63, out := fun _ => .ok (.bl true) }
theorem hm_law : ∀ a, FS_law.pre a → d_law (DDof false (FS_law.out a)) (dstart N_law (FS_law.args a)) := by
  intro (ns : List Int) hh
  have hh : ns.length ≤ 63 := hh
  unfold d_law FS_law N_law
  dsimp only [dstart, istart, List.map_cons, List.map_nil, List.length_cons, List.length_nil, Nat.reduceAdd, Nat.reduceSub, List.replicate_succ, List.replicate_zero, List.cons_append, List.nil_append, List.tail_cons]
  have hr := mParts_ok ns
  refine s_set (d := .lst ((mParts ns).map pD)) (ev_call (S := FS__law_parts) ns (eva_cons (ev_vari rfl) (eva_cons (ev_lst (eva_cons ev_c (eva_cons ev_c (eva_cons ev_c (eva_cons ev_c (eva_cons ev_c (eva_cons ev_c eva_nil)))))) (show (6 : Nat) ≤ sizeLine by decide)) eva_nil)) trivial rfl) ?_
  generalize mParts ns = ps at *
  have hps := hr.2.2
  have hlen := hr.2.1
  refine s_set (d := termI ps) (ev_call (S := FS_Term___init__) ps (eva_cons (ev_cb (eva_cons (ev_bori rfl) eva_nil) fun P hP => hP) eva_nil) ⟨by omega, .inr (.inr (all_val hps))⟩ (termOut_ok hr)) ?_
  have hsum := sum_le (ws := ps.map partL) (B := 2100) fun w m => by
    obtain ⟨p, hp', rfl⟩ := List.mem_map.mp m
    exact part_len (pok_sm (hps p hp'))
  refine s_set (d := .str (S (termL ps))) (ev_join (ys := ps.map partL) (ev_lit lit_star) (?_) ?_ rfl) ?_
  · rw [List.map_map]
    refine ev_lczM ps pD (fun p => .str (S (partL p))) (fun Q E h => ?_) (sl_ok (by omega)) fun p m Q' k => ?_
    · simp only [dSeq, dNext, dSet, dOwn, dRet, dRetN, dIfS, dDrop, dAsg, dPar, dAug, dSetIx, dApp, dClear, dRaise, dTest, dTru, truD, dAndT, dOrT, dNotT, dIf, dAndV, dOrV, dNotV, dOp, dUn, dCB, dBM, dNilA, dVar, dBor, dGive, dC, dCons, dNil, dTup, dLst, dSl, dPart, dNoPart, dIsi, nth, dstart, istart, dFld, dFldSet, putD, dgName, dgTup, dgCons, dgNil, dItL, dItT, dItS, dItR1, dItR2, dItE, dItZ, dYes, dMeth, dOr, Ends2, addD, iaddD, imulD, subD, mulD, fdivD, modD, powD, cmpD, eqD, neD, isD, isNotD, negD, absD, lenD, max2D, min2D, DL.intD, strD, tupleD, listD, catD, repD, slD, slDL, ixD, inSD, notInSD, startswithD, endswithD, findD, isdigitD, splitD, partitionD, joinD, lstripD, List.map_cons, List.map_nil, List.length_cons, List.length_nil, List.cons_append, List.nil_append, List.set_cons_zero, List.set_cons_succ, Nat.reduceAdd, Nat.reduceSub, List.replicate_succ, List.replicate_zero, List.tail_cons, Bool.false_eq_true, if_true, if_false, ite_true, ite_false, reduceIte, true_and, and_true, Bool.not_true, Bool.not_false, decide_eq_true_eq, Bool.not_eq_true', decide_eq_false_iff_not, ne_eq, reduceCtorEq, not_false_eq_true, DL.MulOk, at_0, at_1, at_2, Option.some.injEq, exists_eq_left, exists_eq_left', Int.reduceAdd, Int.reduceSub, Int.reduceMul, Int.reduceNeg, Int.reduceToNat, Int.reduceEq, Int.reduceLT, Int.reduceLE, Nat.reduceLeDiff, Nat.reduceLT, Nat.reduceEqDiff, sizeLine_eq]
      exact h
    · exact (ev_call (S := FS__law_part_text) p (eva_cons (ev_vari rfl) eva_nil) ⟨pok_sm (hps p m), pok_pos (hps p m)⟩ rfl) _ _ (k _ rfl)
  · have : (ps.map partL).length * 2100 ≤ 6 * 2100 := Nat.mul_le_mul_right _ (by simpa using hlen)
    have h3 : (ps.map partL).length ≤ 6 := by simpa using hlen
    simp at *
    omega
  refine s_set (ev_call (S := FS_show_term) ps (eva_cons (ev_vari rfl) eva_nil) ⟨hlen, fun p m => pok_sm (hps p m)⟩ rfl) ?_
  refine s_ifF (evt_or (b := false) (b2 := false) (evt_not (b := true) (evt_tru (ev_isi (ev_bori rfl) (by rfl)))) fun _ => evt_or (b := false) (b2 := false) (evt_test (ev_op (ev_bori rfl) (ev_bori rfl) fun P hP => ne_sx hP)) fun _ => evt_not (b := true) (evt_tru (ev_call (S := FS__law_read) ps (eva_cons (ev_vari rfl) (eva_cons (ev_vari rfl) eva_nil)) hr rfl))) ?_
  apply s_next
  refine for_i (rangeD 19 ((min ns.length 63 : Nat) - 1 - 19 : Int).toNat) (fun i ρ => ∃ s5, ρ = [.sh (.fz (ns.map D.int)), .sh (.lst (ps.map pD)), .sh (termI ps), .sh (.str (S (termL ps))), .sh (.str (S (termL ps))), s5, .em]) (fun Q h => ?_) ⟨_, rfl⟩ ?_ ?_
  · simp only [dSeq, dNext, dSet, dOwn, dRet, dRetN, dIfS, dDrop, dAsg, dPar, dAug, dSetIx, dApp, dClear, dRaise, dTest, dTru, truD, dAndT, dOrT, dNotT, dIf, dAndV, dOrV, dNotV, dOp, dUn, dCB, dBM, dNilA, dVar, dBor, dGive, dC, dCons, dNil, dTup, dLst, dSl, dPart, dNoPart, dIsi, nth, dstart, istart, dFld, dFldSet, putD, dgName, dgTup, dgCons, dgNil, dItL, dItT, dItS, dItR1, dItR2, dItE, dItZ, dYes, dMeth, dOr, Ends2, addD, iaddD, imulD, subD, mulD, fdivD, modD, powD, cmpD, eqD, neD, isD, isNotD, negD, absD, lenD, max2D, min2D, DL.intD, strD, tupleD, listD, catD, repD, slD, slDL, ixD, inSD, notInSD, startswithD, endswithD, findD, isdigitD, splitD, partitionD, joinD, lstripD, List.map_cons, List.map_nil, List.length_cons, List.length_nil, List.cons_append, List.nil_append, List.set_cons_zero, List.set_cons_succ, Nat.reduceAdd, Nat.reduceSub, List.replicate_succ, List.replicate_zero, List.tail_cons, Bool.false_eq_true, if_true, if_false, ite_true, ite_false, reduceIte, true_and, and_true, Bool.not_true, Bool.not_false, decide_eq_true_eq, Bool.not_eq_true', decide_eq_false_iff_not, ne_eq, reduceCtorEq, not_false_eq_true, DL.MulOk, at_0, at_1, at_2, Option.some.injEq, exists_eq_left, exists_eq_left', Int.reduceAdd, Int.reduceSub, Int.reduceMul, Int.reduceNeg, Int.reduceToNat, Int.reduceEq, Int.reduceLT, Int.reduceLE, Nat.reduceLeDiff, Nat.reduceLT, Nat.reduceEqDiff, sizeLine_eq, List.length_map]
    have e : (if (63 : Int) < (ns.length : Int) then (63 : Int) else (ns.length : Int)) = ((min ns.length 63 : Nat) : Int) := by split <;> omega
    rw [e]
    first | exact ⟨by omega, by omega, h⟩ | exact ⟨by omega, h⟩ | exact ⟨⟨by omega, by omega, by omega, by omega⟩, h⟩ | exact h
  · rintro i d ρ hd ⟨s5, rfl⟩
    obtain ⟨rfl, hi⟩ := rangeD_at hd
    have hi2 : 19 + i + 1 < ns.length := by omega
    apply g_name
    apply toSeq
    have at0 : ∀ (j : Nat) (e : Int), e = (j : Int) → j < ns.length → L2.atI (ns.map D.int) e = some (.int (ns.getD j 0)) := fun j e he hj => by rw [he]; exact atI_map hj
    refine s_ifF (evt_not (b := true) (evt_tru (ev_call (S := FS__law_small) (ns.getD (19 + i) 0, ns.getD (19 + i + 1) 0) (eva_cons (ev_op (ev_bori rfl) (ev_bori rfl) fun P hP => ⟨_, at0 (19 + i) _ (by omega) (by omega), hP⟩) (eva_cons (ev_op (ev_bori rfl) (ev_op (ev_bori rfl) ev_c (r := .int (19 + (i : Int) + 1)) fun P hP => hP) fun P hP => ⟨_, at0 (19 + i + 1) _ (by omega) (by omega), hP⟩) eva_nil)) trivial rfl))) ?_
    apply s_next
    exact ⟨_, rfl⟩
  rintro ρ ⟨s5, rfl⟩
  dsimp only
  refine s_ifF (evt_or (b := false) (b2 := false) (evt_test (ev_op (d := .str (S [48])) (ev_call (S := FS_show_form) ⟨0, 0, 0⟩ (eva_cons (ev_form ev_c ev_c ev_c) eva_nil) ⟨sm_of (by decide), sm_of (by decide), sm_of (by decide)⟩ (by show (.ok (.str (S (formL ⟨0, 0, 0⟩))) : Except Str D) = _; rw [form0])) (ev_lit lit_0) fun P hP => ne_sx hP)) fun _ => evt_or (b := false) (b2 := false) (evt_not (b := true) (evt_tru (ev_call (S := FS__law_refused) ps (eva_cons (ev_cat (ev_bori rfl) (ev_lit (a := [32]) (by decide +kernel)) (by have := term_len hr; exact sl_ok (by simp; omega))) eva_nil) hr rfl))) fun _ => evt_not (b := true) (evt_tru (ev_call (S := FS__law_read) ps (eva_cons (ev_vari rfl) (eva_cons (ev_vari rfl) eva_nil)) hr rfl))) ?_
  apply s_next
  refine for_i (ps.map pD) (fun i ρ => ∃ s6, ρ = [.sh (.fz (ns.map D.int)), .sh (.lst (ps.map pD)), .sh (termI ps), .sh (.str (S (termL ps))), .sh (.str (S (termL ps))), s5, s6]) (fun Q h => ?_) ⟨_, rfl⟩ ?_ ?_
  · simp only [dSeq, dNext, dSet, dOwn, dRet, dRetN, dIfS, dDrop, dAsg, dPar, dAug, dSetIx, dApp, dClear, dRaise, dTest, dTru, truD, dAndT, dOrT, dNotT, dIf, dAndV, dOrV, dNotV, dOp, dUn, dCB, dBM, dNilA, dVar, dBor, dGive, dC, dCons, dNil, dTup, dLst, dSl, dPart, dNoPart, dIsi, nth, dstart, istart, dFld, dFldSet, putD, dgName, dgTup, dgCons, dgNil, dItL, dItT, dItS, dItR1, dItR2, dItE, dItZ, dYes, dMeth, dOr, Ends2, addD, iaddD, imulD, subD, mulD, fdivD, modD, powD, cmpD, eqD, neD, isD, isNotD, negD, absD, lenD, max2D, min2D, DL.intD, strD, tupleD, listD, catD, repD, slD, slDL, ixD, inSD, notInSD, startswithD, endswithD, findD, isdigitD, splitD, partitionD, joinD, lstripD, List.map_cons, List.map_nil, List.length_cons, List.length_nil, List.cons_append, List.nil_append, List.set_cons_zero, List.set_cons_succ, Nat.reduceAdd, Nat.reduceSub, List.replicate_succ, List.replicate_zero, List.tail_cons, Bool.false_eq_true, if_true, if_false, ite_true, ite_false, reduceIte, true_and, and_true, Bool.not_true, Bool.not_false, decide_eq_true_eq, Bool.not_eq_true', decide_eq_false_iff_not, ne_eq, reduceCtorEq, not_false_eq_true, DL.MulOk, at_0, at_1, at_2, Option.some.injEq, exists_eq_left, exists_eq_left', Int.reduceAdd, Int.reduceSub, Int.reduceMul, Int.reduceNeg, Int.reduceToNat, Int.reduceEq, Int.reduceLT, Int.reduceLE, Nat.reduceLeDiff, Nat.reduceLT, Nat.reduceEqDiff, sizeLine_eq]
    exact h
  · rintro i d ρ hd ⟨s6, rfl⟩
    obtain ⟨p, hp, rfl⟩ := List.mem_map.mp (List.mem_of_getElem? hd)
    apply g_name
    apply toSeq
    refine s_ifF (evt_not (b := true) (evt_tru (ev_call (S := FS__law_read) [p] (eva_cons (ev_call (S := FS__law_part_text) p (eva_cons (ev_vari rfl) eva_nil) ⟨pok_sm (hps p hp), pok_pos (hps p hp)⟩ rfl) (eva_cons (ev_lst (eva_cons (ev_vari rfl) eva_nil) (show (1 : Nat) ≤ sizeLine by decide)) eva_nil)) (rd_one (hps p hp)) rfl))) ?_
    apply s_next
    exact ⟨_, rfl⟩
  rintro ρ ⟨s6, rfl⟩
  dsimp only
  refine e_ret (d := .bl true) (fun Q E h => ?_) rfl
  refine (ev_op (r := .bl true) (ev_call (S := FS_show_term) ps (eva_cons (ev_vari rfl) eva_nil) ⟨hlen, fun p m => pok_sm (hps p m)⟩ rfl) (ev_bori rfl) fun P hP => eq_sx hP) _ _ ?_
  refine (ev_op (r := .bl true) (ev_told rfl) (ev_bori rfl) fun P hP => eq_ps hP) _ _ ?_
  exact h
end T57

end

section
namespace T57
open PySem PySem.Spec PyProof.Rows L2 DL
/-! raw evaluation: the heap stays, the counter of tokens goes up -/
def RE (X : Cx) (s : Shared) (e : Expr) (Pv : Value → Prop) : Prop := ∀ (k : Nat) (Q E : Value → Shared → Prop), s.toks ≤ k → (∀ v k', s.toks ≤ k' → Pv v → Q v { s with toks := k' }) → wpAny (model X.prog X.w) X.A (eval e X.env) Q E { s with toks := k }
def RT (X : Cx) (s : Shared) (e : Expr) (b : Bool) : Prop := ∀ (k : Nat) (Q : Bool → Shared → Prop) (E : Value → Shared → Prop), s.toks ≤ k → (∀ k', s.toks ≤ k' → Q b { s with toks := k' }) → wpAny (model X.prog X.w) X.A (isTrue e X.env (eval e X.env)) Q E { s with toks := k }
def IsI (i : Int) (v : Value) : Prop := ∃ t, v = .int i t
def IsS (x : Str) (v : Value) : Prop := ∃ t, v = .str x t
section
variable {X : Cx} {s : Shared} {e a b c : Expr} {Pv : Value → Prop} {pos p apos : Pos}
theorem raw_after {t : Sem Value} {s0 : Shared} {k : Nat} {Q E : Value → Shared → Prop} (hk : s.toks ≤ k) (h : ∀ Q' : Value → Shared → Prop, (∀ v k', Pv v → Q' v { s with toks := k' }) → wpAny (model X.prog X.w) X.A t Q' E { s with toks := k })
    (hq : ∀ v k', s.toks ≤ k' → Pv v → Q v { s with toks := k' }) : wpAny (model X.prog X.w) X.A t Q E { s with toks := k } := by
  refine wpAny_mono (PySem.wpAny_toks (h (fun v s' => ∃ k', s' = { s with toks := k' } ∧ Pv v) fun v k' pv => ⟨k', rfl, pv⟩)) (fun v s' q => ?_) fun _ _ z => z.2
  obtain ⟨hk', k', rfl, pv⟩ := q
  exact hq v k' (Nat.le_trans hk hk') pv
theorem re_name {x : Str} {u : Value} {m : Str → Option Value} (hf : X.env.scope.kind = .function) (hk : X.env.kindOf x = some .local) (hn : s.heap.Ns X.env.locals m) (hm : m x = some u) (hu : Pv u) (hd : (x == ("__debug__" : Str)) = false := by decide) : RE X s (.Name x pos) Pv :=
  fun k Q E hk' hq => wpAny_Name (wpAny_loadName_local hf hk hn hm (hq u k hk' hu)) hd
theorem re_int {i : Int} {j : Nat} : RE X s (.Constant (.int i) j pos) (IsI i) := fun k Q E hk hq => wpAny_Constant_int (hq _ (k + 1) (Nat.le_succ_of_le hk) ⟨k, rfl⟩)
theorem re_str {x : Str} {j : Nat} : RE X s (.Constant (.str x) j pos) (IsS x) := fun k Q E hk hq => Calls.Constant_str (hq _ (k + 1) (Nat.le_succ_of_le hk) ⟨k, rfl⟩)
theorem rt_eq {i j : Int} (ha : RE X s a (IsI i)) (hb : RE X s b (IsI j)) (hm : behindInMarks .Eq b = false := by rfl) : RT X s (.Compare a [.Eq] [b] pos) (decide (i = j)) :=
  fun k Q E hk hq => wpAny_isTrue_Compare1 (ha k _ _ hk fun v k1 h1 ⟨t, e⟩ => by
    subst e
    exact hb k1 _ _ h1 fun u k2 h2 ⟨t2, e2⟩ => by
      subst e2
      exact eq_int (wpAny_truthy_bool (by rw [Bool.beq_eq_decide_eq]; exact hq k2 h2))) hm
theorem rt_gt {i j : Int} (ha : RE X s a (IsI i)) (hb : RE X s b (IsI j)) (hm : behindInMarks .Gt b = false := by rfl) : RT X s (.Compare a [.Gt] [b] pos) (decide (j < i)) :=
  fun k Q E hk hq => wpAny_isTrue_Compare1 (ha k _ _ hk fun v k1 h1 ⟨t, e⟩ => by
    subst e
    exact hb k1 _ _ h1 fun u k2 h2 ⟨t2, e2⟩ => by
      subst e2
      exact gt_int (wpAny_truthy_bool (hq k2 h2))) hm
theorem rt_neS {x y : Str} {r : Bool} (ha : RE X s a (IsS x)) (hb : RE X s b (IsS y)) (hr : (x.cps.toList != y.cps.toList) = r) (hm : behindInMarks .NotEq b = false := by rfl) : RT X s (.Compare a [.NotEq] [b] pos) r :=
  fun k Q E hk hq => wpAny_isTrue_Compare1 (ha k _ _ hk fun v k1 h1 ⟨t, e⟩ => by
    subst e
    exact hb k1 _ _ h1 fun u k2 h2 ⟨t2, e2⟩ => by
      subst e2
      exact PySem.P.ne_str (wpAny_truthy_bool (by rw [hr]; exact hq k2 h2))) hm
theorem rt_and {b1 b2 : Bool} (ha : RT X s a b1) (hc : b1 = true → RT X s c b2) : RT X s (.BoolOp .And [a, c] pos) (b1 && b2) := fun k Q E hk hq => by
  refine isTrue_and (ha k _ _ hk fun k1 h1 => ?_)
  cases b1 with
  | false => exact hq k1 h1
  | true =>
    refine isTrue_and (hc rfl k1 _ _ h1 fun k2 h2 => ?_)
    cases b2 with
    | false => exact hq k2 h2
    | true => exact isTrue_and_nil (hq k2 h2)
variable {pins : List (Addr × Obj)} {σ : L2.St} {H : Hp}
theorem re_abs {i : Int} (I : Inv X pins σ H s) (hm : X.mg "abs" = none) (ha : RE X s e (IsI i)) (hg : Gl X "abs" := by rfl) (he : starEach [e] X.env = (false, eval e X.env) :: starEach [] X.env := by rfl) (hpl : (backTo pos (starEach [] X.env)).any (·.1) = false := by rfl) :
    RE X s (.Call (.Name "abs" p) [e] [] pos) (IsI (if i < 0 then -i else i)) := fun k Q E hk hq => by
  refine wpAny_Call_Name_kw (ld_blt (I.tok k) hg hm PyProof.Rows.boot_abs ?_)
  refine PyProof.Rows.callWith_builtin1 ?_ he hpl
  rw [he]
  show wpAny _ _ (spliced ((false, eval e X.env) :: backTo pos (starEach [] X.env))) _ _ _
  refine Calls.spliced_cons (ha k _ _ hk fun v k1 h1 ⟨t, ev⟩ => Calls.spliced_nil ?_)
  subst ev
  exact raw_after (s0 := s) h1 (fun Q' h => call_abs_int fun u tk => h _ tk ⟨u, rfl⟩) hq
theorem re_sofi {i : Int} (I : Inv X pins σ H s) (hm : X.mg "str" = none) (hz : i.natAbs.log2 < 1920) (ha : RE X s e (IsI i)) (hg : Gl X "str" := by rfl) (he : starEach [e] X.env = (false, eval e X.env) :: starEach [] X.env := by rfl) (hpl : (backTo pos (starEach [] X.env)).any (·.1) = false := by rfl) :
    RE X s (.Call (.Name "str" p) [e] [] pos) (IsS (Str.ofString (toString i))) := fun k Q E hk hq => by
  refine wpAny_Call_Name_kw (ld_blt (I.tok k) hg hm (show bootBuiltins "str" = some (.type "str") by decide +kernel) ?_)
  refine PyProof.Rows.callWith_type1 ?_ he hpl
  rw [he]
  show wpAny _ _ (spliced ((false, eval e X.env) :: backTo pos (starEach [] X.env))) _ _ _
  refine Calls.spliced_cons (ha k _ _ hk fun v k1 h1 ⟨t, ev⟩ => Calls.spliced_nil ?_)
  subst ev
  exact raw_after (s0 := s) h1 (fun Q' h => PySem.P.str_of_int hz (h _ _ ⟨_, rfl⟩)) hq
theorem re_add {x y : Str} (ha : RE X s a (IsS x)) (hb : RE X s b (IsS y)) (hl : x.length + y.length ≤ sizeLine) : RE X s (.BinOp a .Add b pos) (IsS (x ++ y)) := fun k Q E hk hq => by
  refine wpAny_BinOp (ha k _ _ hk fun v k1 h1 ⟨t, ev⟩ => ?_)
  subst ev
  refine hb k1 _ _ h1 fun u k2 h2 ⟨t2, ev2⟩ => ?_
  subst ev2
  exact raw_after (s0 := s) h2 (fun Q' h => PySem.SB.add (fun t' k' => h _ k' ⟨t', rfl⟩) hl) hq
theorem re_repl {x y z nm : Str} {tz : Tok} {j : Nat} {c0 p2 : Pos} (ho : RE X s a (IsS x)) (hz : RE X s (.Name nm p2) (fun v => v = .str z tz)) (h0 : tz ≠ 0) (hlt : tz < s.toks) (hyz : (y == z) = false) (hb : x.length + (x.length + 1) * z.length ≤ 16777216)
    (hst : starEach [.Constant (.str y) j c0, .Name nm p2] X.env = [(false, eval (.Constant (.str y) j c0) X.env), (false, eval (.Name nm p2) X.env)] := by rfl)
    (hbase : attributeBase a "replace" X.env (eval a X.env) = eval a X.env := by rfl) (hline : (apos.endLine == pos.line) = true := by rfl) :
    RE X s (.Call (.Attribute a "replace" apos) [.Constant (.str y) j c0, .Name nm p2] [] pos) (IsS (Txt.replace x y z)) := fun k Q E hk hq => by
  refine PySem.Call_method2 hbase hst hline (ho k _ _ hk fun v k1 h1 ⟨t, ev⟩ => ?_)
  subst ev
  refine ⟨"str", _, PySem.F.plainAttrs_str, PySem.F.slot_str_replace, PySem.F.type_str_replace, typeIs_str _ _ _, (fun _ e => nomatch e), Calls.callWith_builtin rfl (Calls.evalArgs_plain (Calls.spliced_cons ?_))⟩
  refine Calls.Constant_str (Calls.spliced_cons (hz (k1 + 1) _ _ (Nat.le_succ_of_le h1) fun v k2 h2 ev => ?_))
  subst ev
  refine Calls.spliced_nil ?_
  have hk1 : tz < k1 := Nat.lt_of_lt_of_le hlt h1
  have e1 : k1 ≠ 0 := Nat.ne_of_gt (Nat.lt_of_le_of_lt (Nat.zero_le _) hk1)
  have e2 : k1 ≠ tz := Nat.ne_of_gt hk1
  exact raw_after (s0 := s) h2 (fun Q' h => PySem.SC.replace e1 h0 e2 hyz hb fun t' k' => h _ k' ⟨t', rfl⟩) hq
end
end T57

end

section
namespace T57
open PySem PySem.Spec PyProof.Rows L2 DL
/-- what show_piece answers -/
def pieceS (n : Int) (c : Str) : Str := if n = 0 then "" else if (c.cps.toList != ("" : Str).cps.toList) = true ∧ n.natAbs = 1 then Txt.replace (Str.ofString (toString n)) "1" c else Str.ofString (toString n) ++ c
/-- its promise, of raw arguments -/
def PieceRun (P : Program) (w : World) (K : PySem.W.Frag) (mg : Str → Option Value) (base : Heap) (CX : CXT) (k : Nat) (f : Addr) : Prop :=
  ∀ (A : Around) (outer : List Env) (s : Shared) (H : Hp) (n : Int) (c : Str) (tn tc : Tok) (Q : VK) (E : XK), Room k A → Env0 P w K mg base A outer s H → n.natAbs.log2 < 1920 → tc ≠ 0 → tc < s.toks → (("1" : Str) == c) = false → c.length ≤ 1 → (Str.ofString (toString n)).length ≤ 1000 →
      Q (.str (pieceS n c)) H → codeAny (model P w) A (.call (.ref f) ⟨[.int n tn, .str c tc], []⟩) (CR CX outer P w H s Q E) s
theorem piece_run {CX : CXT} {P : Program} {w : World} {K : PySem.W.Frag} {mg : Str → Option Value} {base : Heap} {k : Nat} {f : Addr} {fd : FuncData} {name qual : Str} {params : Arguments} {scope : Scope}
    {N : List Str} {p1 p2 p3 p4 p5 p6 p7 p8 p9 q1 q2 q3 q4 q5 q6 q7 q8 q9 r1 r2 r3 r4 r5 r6 r7 r8 r9 u1 u2 u3 : Pos} {body : List Stmt}
    (hbd : body = [.If (.Compare (.Name "number" p1) [.Eq] [.Constant (.int 0) 0 p2] p3) [.Return (some (.Constant (.str "") 0 p4)) p5] [] p6,
      .If (.BoolOp .And [.Compare (.Name "letter" p7) [.NotEq] [.Constant (.str "") 0 p8] p9, .Compare (.Call (.Name "abs" q1) [.Name "number" q2] [] q3) [.Eq] [.Constant (.int 1) 0 q4] q5] q6)
        [.Return (some (.Call (.Attribute (.Call (.Name "str" q7) [.Name "number" q8] [] q9) "replace" r1) [.Constant (.str "1") 0 r2, .Name "letter" r3] [] r4)) r5] [] r6,
      .Return (some (.BinOp (.Call (.Name "str" r7) [.Name "number" r8] [] r9) .Add (.Name "letter" u1) u2)) u3])
    (F : FunD K name qual params body scope [] [] f fd) (S : FnScope N ["number", "letter"] scope) (hb : Binds K fd ["number", "letter"] [])
    (h0 : scope.names.lookup ("number" : Str) = some .local) (h1 : scope.names.lookup ("letter" : Str) = some .local) (g0 : scope.names.lookup ("abs" : Str) = some .globalImplicit) (g1 : scope.names.lookup ("str" : Str) = some .globalImplicit) (m0 : mg "abs" = none) (m1 : mg "str" = none) (hline : (r1.endLine == r4.line) = true) : PieceRun P w K mg base CX (k + 1) f := by
  intro A outer s H n c tn tc Q E hr e0 hz ht0 htl hyz hcl hnl q
  obtain ⟨oc, od, dV, kV, doc, pm, an, cdv, ct, osl, rfl, lk, hcd, _, _⟩ := F.ex
  subst hbd
  have KX : K.In s.heap := e0.mod.kin.keeps fun b o e => (e0.bs b o e).1
  have lim : s.heap.NoLimit := e0.mod.nolimit.keeps fun b o e => (e0.bs b o e).1
  have hkind : ∀ v ∈ ([("number" : Str), "letter"] : List Str).zip [Value.int n tn, .str c tc], scope.names.lookup v.1 = some .local ∨ (scope.names.lookup v.1 = some .cell ∧ ((cellsFrom (s.heap.objs.size + 1) scope.names []).lookup v.1).isSome = true) := fun ⟨nm, v⟩ hy => by
    rcases S.par nm (List.of_mem_zip hy).1 with q | q
    · exact .inl q
    · exact .inr ⟨q, PySem.W.cellsFrom_some _ _ _ (.inl q)⟩
  refine codeAny_call_function hr.depth (KX _ _ lk) rfl S.co S.gen rfl (PySem.W.codeRec_of KX hcd) (hb s [Value.int n tn, .str c tc] KX rfl _ _ _ _ ?_)
  refine wpAny_mono (PySem.wpAny_toks (wpAny_newFunctionEnv_cells (Q := fun env s1 => env = envOfC qual scope s.heap.objs.size f cdv ∧ InCallC s env.locals (bindL env.kindOf ([("number" : Str), "letter"].zip [Value.int n tn, .str c tc]) fun _ => none) env.cells (bindC env.kindOf ([("number" : Str), "letter"].zip [Value.int n tn, .str c tc]) fun _ => none) s1) S.kind hkind fun env he s1 xx => ⟨he, xx⟩)) (fun env s1 hh => ?_) fun _ _ z => z.2
  obtain ⟨htk, he, xx⟩ := hh
  subst he
  refine ⟨lim.keeps xx.toInCall.keep, codeAny_func ?_⟩
  have rv : Vals [V.int n, .str c] [Value.int n tn, .str c tc] := .cons ⟨tn, rfl⟩ (.cons ⟨tc, rfl⟩ .nil)
  have I : Inv (cxOf CX P w K mg base N qual scope f cdv A outer s H E) [] (start N [.int n, .str c]) H s1 := inv_start S hr.hd e0 rfl rv xx
  have hn := xx.toInCall.ns
  have nd : ([("number" : Str), "letter"] : List Str).Nodup := by decide
  have v0 := bindL_get (kindOf := (envOfC qual scope s.heap.objs.size f cdv).kindOf) (x := "number") (v := Value.int n tn) (P := ["number", "letter"]) (vs := [.int n tn, .str c tc]) (i := 0) (m := fun _ => none) nd rfl rfl h0
  have v1 := bindL_get (kindOf := (envOfC qual scope s.heap.objs.size f cdv).kindOf) (x := "letter") (v := Value.str c tc) (P := ["number", "letter"]) (vs := [.int n tn, .str c tc]) (i := 1) (m := fun _ => none) nd rfl rfl h1
  have fin : ∀ {k' : Nat} {v : V} {r : Value}, RelV v r → Q v H → CE outer P w H s Q r { s1 with toks := k' } :=
    fun {k' v r} rv q => ⟨v, H, (I.tok k').os, (I.tok k').bare, (I.tok k').base, (I.tok k').hok, rv, q⟩
  have en : ∀ {pos : Pos}, RE (cxOf CX P w K mg base N qual scope f cdv A outer s H E) s1 (.Name "number" pos) (IsI n) := fun {pos} => re_name S.kind h0 hn v0 ⟨tn, rfl⟩
  have el : ∀ {pos : Pos}, RE (cxOf CX P w K mg base N qual scope f cdv A outer s H E) s1 (.Name "letter" pos) (fun v => v = .str c tc) := fun {pos} => re_name S.kind h1 hn v1 rfl
  have els : ∀ {pos : Pos}, RE (cxOf CX P w K mg base N qual scope f cdv A outer s H E) s1 (.Name "letter" pos) (IsS c) := fun {pos} => re_name S.kind h1 hn v1 ⟨tc, rfl⟩
  unfold pieceS at q
  refine wpAny_execs_cons (wpAny_If ((rt_eq en re_int) s1.toks _ _ (Nat.le_refl _) fun k1 l1 => ?_))
  by_cases c1 : n = 0
  · rw [if_pos c1] at q
    rw [decide_eq_true c1]
    exact wpAny_execs_cons (wpAny_Return_some (Calls.Constant_str (fin (v := .str "") ⟨_, rfl⟩ q)))
  rw [if_neg c1] at q
  rw [decide_eq_false c1]
  refine wpAny_execs_nil ?_
  refine wpAny_execs_cons (wpAny_If ((rt_and (rt_neS els re_str rfl) (fun _ => rt_eq (re_abs I m0 en g0) re_int)) k1 _ _ l1 fun k2 l2 => ?_))
  have hab : (if n < 0 then -n else n) = 1 ↔ n.natAbs = 1 := by split <;> omega
  by_cases c2 : (c.cps.toList != ("" : Str).cps.toList) = true ∧ n.natAbs = 1
  · rw [if_pos c2] at q
    have e : ((c.cps.toList != ("" : Str).cps.toList) && decide ((if n < 0 then -n else n) = 1)) = true := by rw [c2.1, decide_eq_true (hab.mpr c2.2)]; rfl
    rw [e]
    refine wpAny_execs_cons (wpAny_Return_some ((re_repl (re_sofi I m1 hz en g1) el ht0 (Nat.lt_of_lt_of_le htl htk) hyz ?_ (hline := hline)) k2 _ _ l2 fun v k3 l3 ev => ?_))
    · have : ((Str.ofString (toString n)).length + 1) * c.length ≤ ((Str.ofString (toString n)).length + 1) * 1 := Nat.mul_le_mul_left _ hcl
      omega
    · obtain ⟨t', rfl⟩ := ev
      exact fin (v := .str _) ⟨_, rfl⟩ q
  · rw [if_neg c2] at q
    have e : ((c.cps.toList != ("" : Str).cps.toList) && decide ((if n < 0 then -n else n) = 1)) = false := by
      rw [Bool.and_eq_false_iff]
      by_cases c3 : (c.cps.toList != ("" : Str).cps.toList) = true
      · exact .inr (decide_eq_false fun z => c2 ⟨c3, hab.mp z⟩)
      · exact .inl (by simpa using c3)
    rw [e]
    refine wpAny_execs_nil ?_
    refine wpAny_execs_cons (wpAny_Return_some ((re_add (re_sofi I m1 hz en g1) els (by rw [sizeLine_eq]; omega)) k2 _ _ l2 fun v k3 l3 ev => ?_))
    obtain ⟨t', rfl⟩ := ev
    exact fin (v := .str _) ⟨_, rfl⟩ q
end T57

end

section
namespace T57
open PySem PySem.Spec PyProof.Rows L2 DL
/-- the names as they stand, told exactly -/
def LocAt (X : Cx) (σ : L2.St) (h : Heap) (m : Str → Option Value) : Prop := h.Ns X.env.locals m ∧ ∀ (i : Nat) (x : Str) (v : V), X.N[i]? = some x → σ[i]? = some (some v) → Vis X.env.scope x → ∃ u, RelV v u ∧ Look X.env h m x u
def setM (m : Str → Option Value) (x : Str) (u : Value) : Str → Option Value := fun y => if y = x then some u else m y
theorem store_okE {X : Cx} {pins : List (Addr × Obj)} {σ : L2.St} {H : Hp} {s : Shared} {M : Model} {A : Around} {E : Value → Shared → Prop} {i : Nat} {x : Str} {v : V} {u : Value} {m : Str → Option Value} {Q : Unit → Shared → Prop} (I : Inv X pins σ H s) (L : LocAt X σ s.heap m) (hN : X.N.Nodup) (hi : X.N[i]? = some x)
    (hk : X.env.kindOf x = some .local) (r : RelV v u) (h : ∀ h', Inv X pins (σ.set i (some v)) H { s with heap := h', toks := s.toks + 1 } → LocAt X (σ.set i (some v)) h' (setM m x u) → Q () { s with heap := h', toks := s.toks + 1 }) : wpAny M A (storeName X.env x u) Q E s := by
  obtain ⟨hn, hl⟩ := L
  have hcls : (X.env.scope.kind == .class || (X.env.scope.kind == .module && X.env.locals != X.env.globals)) = false := by rw [I.ok.kind]; rfl
  have hiσ : i < σ.length := by rw [I.len]; exact (List.getElem?_eq_some_iff.mp hi).1
  have cne := I.cne
  have tracked : ∀ {a : Addr} {h' : Heap}, (∃ o, s.heap.get? a = some o ∧ H a = none) → Heap.SameBut a s.heap h' → HOk X.prog X.w H h' := fun {a h'} ha hs b ob e => by
    obtain ⟨_, _, hfree⟩ := ha
    refine (I.hok b ob e).stay (fun c w' hc q => (hs.2 c ?_).trans q) (fun _ q => q) fun _ _ q => q
    rintro rfl
    rcases hc with rfl | hc
    · rw [hfree] at e; cases e
    · rw [hfree] at hc; cases hc
  refine wpAny_storeName_local hk hn (fun h' hn' hs => ?_) hcls
  obtain ⟨oL, _, _, hoL, _⟩ := id hn
  have hl' : ∀ (j : Nat) (y : Str) (v' : V), X.N[j]? = some y → (σ.set i (some v))[j]? = some (some v') → Vis X.env.scope y → ∃ u', RelV v' u' ∧ Look X.env h' (setM m x u) y u' := fun j y v' e1 e2 e3 => by
    by_cases hj : j = i
    · subst hj
      rw [hi] at e1; cases e1
      rw [List.getElem?_set_self hiσ] at e2
      cases e2
      exact ⟨u, r, .inl ⟨hk, by unfold setM; simp⟩⟩
    · rw [List.getElem?_set_ne (Ne.symm hj)] at e2
      obtain ⟨u', r', q⟩ := hl j y v' e1 e2 e3
      refine ⟨u', r', ?_⟩
      rcases q with ⟨k, e⟩ | ⟨k, c, e, z⟩
      · refine .inl ⟨k, ?_⟩
        have : y ≠ x := fun e => hj (nodup_ix hN e1 (e ▸ hi))
        unfold setM
        simp [this, e]
      · exact .inr ⟨k, c, e, z.sameBut hs (cne y c e)⟩
  refine h h' ⟨I.ok, I.os, I.bare, ⟨fun b o e n hb hx => ?_, fun b o e n hb hx => ?_, I.base.free, fun b o e hx => ?_, I.base.tups, I.base.frzs, I.base.tbls⟩, ⟨_, hn', hl'⟩, fun y c e => ?_, I.free, I.freeC, fun p hp => ?_, tracked ⟨oL, hoL, I.free⟩ hs, by simpa using I.len⟩ ⟨hn', hl'⟩
  · exact (hs.2 b (Nat.ne_of_lt (Nat.lt_of_lt_of_le (Heap.lt_size e) I.ok.above))).trans (I.base.keep b o e n hb hx)
  · obtain ⟨sl, e1⟩ := I.base.slot b o e n hb hx
    exact ⟨sl, (hs.2 b (Nat.ne_of_lt (Nat.lt_of_lt_of_le (Heap.lt_size e) I.ok.above))).trans e1⟩
  · obtain ⟨o', e1⟩ := I.base.there b o e hx
    exact ⟨o', (hs.2 b (Nat.ne_of_lt (Nat.lt_of_lt_of_le (Heap.lt_size e) I.ok.above))).trans e1⟩
  · obtain ⟨w', z⟩ := I.cell y c e
    exact ⟨w', z.sameBut hs (cne y c e)⟩
  · obtain ⟨e, n, ne, nf, d⟩ := I.pin p hp
    exact ⟨(hs.2 p.1 ne).trans e, n, ne, nf, d⟩
/-- a name's value, exactly -/
theorem LocAt.get {X : Cx} {σ : L2.St} {h : Heap} {m : Str → Option Value} (L : LocAt X σ h m) {i : Nat} {x : Str} {v : V} (hi : X.N[i]? = some x) (hσ : σ[i]? = some (some v)) (hk : X.env.kindOf x = some .local) : ∃ u, RelV v u ∧ m x = some u := by
  obtain ⟨u, r, l⟩ := L.2 i x v hi hσ (.inl hk)
  rcases l with ⟨_, e⟩ | ⟨z, _⟩
  · exact ⟨u, r, e⟩
  · rw [hk] at z
    rcases z with z | z <;> cases z
end T57

end

section
namespace T57
open PySem PySem.Spec PyProof.Rows L2 DL
theorem S_toList (l : List Nat) : (S l).cps.toList = l := by rfl
def LetL (l : List Nat) : Prop := l = [110] ∨ l = [107] ∨ l = []
theorem piece_eq {i : Int} {l : List Nat} (h : LetL l) : pieceS i (S l) = S (pc i l) := by
  unfold pieceS pc
  by_cases c1 : i = 0
  · rw [if_pos c1, if_pos c1]
    exact lit_empty
  rw [if_neg c1, if_neg c1]
  have e0 : ((S l).cps.toList != ("" : Str).cps.toList) = true ↔ l ≠ [] := by
    rw [S_toList]
    have : ("" : Str).cps.toList = [] := by decide +kernel
    rw [this]
    simp
  by_cases c2 : l ≠ [] ∧ i.natAbs = 1
  · rw [if_pos ⟨e0.mpr c2.1, c2.2⟩, if_pos c2]
    have hi : i = 1 ∨ i = -1 := by omega
    rcases h with rfl | rfl | rfl
    · rcases hi with rfl | rfl <;> decide +kernel
    · rcases hi with rfl | rfl <;> decide +kernel
    · exact absurd rfl c2.1
  · rw [if_neg fun z => c2 ⟨e0.mp z.1, z.2⟩, if_neg c2, str_int, SX.S_cat]
theorem raw_iadd {X : Cx} {s : Shared} {x y : Str} {t u : Tok} {T k : Nat} {Q E : Value → Shared → Prop} (hk : T ≤ k) (hl : x.length + y.length ≤ sizeLine) (hq : ∀ t' k', T ≤ k' → Q (.str (x ++ y) t') { s with toks := k' }) :
    wpAny (model X.prog X.w) X.A (inplaceOp .Add (.str x t) (.str y u)) Q E { s with toks := k } := by
  refine wpAny_mono (PySem.wpAny_toks (PySem.SB.iadd (Q := fun v s' => ∃ t' k', v = .str (x ++ y) t' ∧ s' = { s with toks := k' }) (fun t' k' => ⟨t', k', rfl, rfl⟩) hl)) (fun v s' q => ?_) fun _ _ z => z.2
  obtain ⟨hk', t', k', rfl, rfl⟩ := q
  exact hq t' k' (Nat.le_trans hk hk')
end T57

end

section
namespace T57
open PySem PySem.Spec PyProof.Rows L2 DL
theorem pass_none {P : Program} {w : World} {X : Cx} : Passes (L2.CX P w) X (fun _ _ _ => False) := fun pins σ H s e s' I h => by
  unfold L2.CX at h
  obtain ⟨_, _, _, _, _, _, _, _, _, _, _, _, h⟩ := h
  exact h.elim
theorem turn_body {X : Cx} {CX : CXT} {pins : List (Addr × Obj)} {σ : L2.St} {H : Hp} {s : Shared} {m : Str → Option Value} {n : Int} {l acc : List Nat} {x0 : Option V} {fp : Addr} {k : Nat} {tn tc : Tok} {E : XK} {Q : Flow → Shared → Prop}
    {p1 p2 p3 p4 p5 p6 p7 p8 p9 q1 q2 q3 q4 q5 q6 q7 q8 : Pos} {body : List Stmt}
    (hbd : body = [.If (.BoolOp .And [.Compare (.Name "number" p1) [.Gt] [.Constant (.int 0) 0 p2] p3, .Compare (.Name "found" p4) [.NotEq] [.Constant (.str "") 0 p5] p6] p7) [.AugAssign (.Name "found" p8) .Add (.Constant (.str "+") 0 p9) q1] [] q2,
      .AugAssign (.Name "found" q3) .Add (.Call (.Name "show_piece" q4) [.Name "number" q5, .Name "letter" q6] [] q7) q8])
    (hN : X.N = ([("form" : Str), "found", "number", "letter"] : List Str)) (k1 : X.env.kindOf "found" = some .local) (k2 : X.env.kindOf "number" = some .local) (k3 : X.env.kindOf "letter" = some .local)
    (hg : Gl X "show_piece") (hm : X.mg "show_piece" = some (.ref fp)) (hkp : PySem.W.keepIn X.K (.ref fp) = true) (R : PieceRun X.prog X.w X.K X.mg X.base CX k fp) (hr : Room k X.A) (hx : Passes CX X E)
    (I : Inv X pins σ H s) (L : LocAt X σ s.heap m) (e1 : σ = [x0, some (.str (S acc)), some (.int n), some (.str (S l))])
    (m2 : m "number" = some (.int n tn)) (m3 : m "letter" = some (.str (S l) tc)) (t0 : tc ≠ 0) (t1 : tc < s.toks) (hl : LetL l) (hs : Sm n) (ha : acc.length ≤ 2000)
    (hq : ∀ s', Inv X pins [x0, some (.str (S (stp acc n l))), some (.int n), some (.str (S l))] H s' → Q .next s') : wpAny (model X.prog X.w) X.A (execs body X.env) Q X.xe s := by
  subst hbd
  subst e1
  have nd : X.N.Nodup := by rw [hN]; decide
  have hi : X.N[1]? = some ("found" : Str) := by rw [hN]; rfl
  obtain ⟨uf, ⟨tf, rfl⟩, mf⟩ := L.get hi rfl k1
  have hll : l.length ≤ 1 := by rcases hl with rfl | rfl | rfl <;> decide
  have hpl := pc_len (l := l) hs
  have one_ne : (("1" : Str) == S l) = false := by rcases hl with rfl | rfl | rfl <;> decide +kernel
  have step2 : ∀ (s5 : Shared) (m5 : Str → Option Value) (acc5 : List Nat), Inv X pins [x0, some (.str (S acc5)), some (.int n), some (.str (S l))] H s5 → LocAt X [x0, some (.str (S acc5)), some (.int n), some (.str (S l))] s5.heap m5 → m5 "number" = some (.int n tn) → m5 "letter" = some (.str (S l) tc) → s.toks ≤ s5.toks → acc5 ++ pc n l = stp acc n l → acc5.length ≤ 2001 →
      wpAny (model X.prog X.w) X.A (execs [.AugAssign (.Name "found" q3) .Add (.Call (.Name "show_piece" q4) [.Name "number" q5, .Name "letter" q6] [] q7) q8] X.env) Q X.xe s5 := by
    intro s5 m5 acc5 I5 L5 m52 m53 hk5 he hal
    obtain ⟨u5, ⟨t5, rfl⟩, mf5⟩ := L5.get hi rfl k1
    refine wpAny_execs_cons (wpAny_AugAssign_Name ?_)
    refine wpAny_loadName_local I5.ok.kind k1 L5.1 mf5 ?_
    refine wpAny_Call_Name_kw (ld_glob I5 hg hm ?_ (by decide))
    refine PySem.W.callWith_K (h₀ := X.base) I5.ok.mod.kin hkp ?_ rfl rfl
    show wpAny _ _ (spliced ((false, eval (.Name "number" q5) X.env) :: backTo q7 (starEach [.Name "letter" q6] X.env))) _ _ s5
    refine Calls.spliced_cons (wpAny_Name (wpAny_loadName_local I5.ok.kind k2 L5.1 m52 ?_) (by decide))
    show wpAny _ _ (spliced ((false, eval (.Name "letter" q6) X.env) :: backTo q7 (starEach [] X.env))) _ _ s5
    refine Calls.spliced_cons (wpAny_Name (wpAny_loadName_local I5.ok.kind k3 L5.1 m53 ?_) (by decide))
    refine Calls.spliced_nil ?_
    refine ⟨I5.kIn, wpAny_call (codeAny_mono (R X.A X.stack s5 H n (S l) tn tc (fun v H' => v = .str (S (pc n l)) ∧ H' = H) E hr I5.env0 (sm_log hs) t0 (Nat.lt_of_lt_of_le t1 hk5) one_ne (by rw [SX.S_len]; exact hll) (by rw [str_int, SX.S_len]; have := sm_len hs; omega) ⟨by rw [piece_eq hl], rfl⟩) fun r s' hq' => ?_)⟩
    cases r with
    | error e => exact hx pins _ H _ e s' I5 hq'
    | ok fl =>
      cases fl with
      | ret u =>
        obtain ⟨v, H', I6, r6, rfl, rfl⟩ := I5.after hq'
        obtain ⟨t6, rfl⟩ := r6
        refine PySem.SB.iadd (fun t' k' => ?_) (by rw [SX.S_len, SX.S_len, sizeLine_eq]; omega)
        refine store_ok (v := .str (S (stp acc n l))) (I6.tok k') nd hi (.inl k1) ⟨t', by rw [SX.S_cat, he]⟩ (fun s' I' => ?_) (hf := .inr k1)
        exact wpAny_execs_nil (hq s' I')
      | next => exact False.elim hq'
      | brk => exact False.elim hq'
      | cont => exact False.elim hq'
  have hne : ((S acc).cps.toList != ("" : Str).cps.toList) = true ↔ acc ≠ [] := by
    rw [S_toList]
    have : ("" : Str).cps.toList = [] := by decide +kernel
    rw [this]
    simp
  refine wpAny_execs_cons (wpAny_If ((rt_and (rt_gt (re_name I.ok.kind k2 L.1 m2 ⟨tn, rfl⟩) re_int) (fun _ => rt_neS (re_name I.ok.kind k1 L.1 mf ⟨tf, rfl⟩) re_str rfl)) s.toks _ _ (Nat.le_refl _) fun k' l' => ?_))
  by_cases c : 0 < n ∧ acc ≠ []
  · rw [show (decide (0 < n) && ((S acc).cps.toList != ("" : Str).cps.toList)) = true by rw [decide_eq_true c.1, hne.mpr c.2]; rfl]
    refine wpAny_execs_cons (wpAny_AugAssign_Name (wpAny_loadName_local I.ok.kind k1 L.1 mf (Calls.Constant_str ?_)))
    refine raw_iadd (s := s) (T := s.toks) (Nat.le_succ_of_le l') (by rw [SX.S_len, show ("+" : Str) = S [43] from lit_plus, SX.S_len, sizeLine_eq]; simp; omega) fun t' k2' h2 => ?_
    refine store_okE (v := .str (S (acc ++ [43]))) (I.tok k2') L nd hi k1 ⟨t', by rw [show ("+" : Str) = S [43] from lit_plus, SX.S_cat]⟩ fun h' I' L' => ?_
    refine wpAny_execs_nil (step2 _ _ (acc ++ [43]) I' L' ?_ ?_ (Nat.le_succ_of_le h2) ?_ (by simp; omega))
    · unfold setM
      rw [if_neg (by decide)]
      exact m2
    · unfold setM
      rw [if_neg (by decide)]
      exact m3
    · unfold stp
      rw [if_pos c]
      simp
  · rw [show (decide (0 < n) && ((S acc).cps.toList != ("" : Str).cps.toList)) = false by
      rw [Bool.and_eq_false_iff]
      by_cases c1 : 0 < n
      · refine .inr ?_
        cases z : ((S acc).cps.toList != ("" : Str).cps.toList) with
        | false => rfl
        | true => exact absurd ⟨c1, hne.mp z⟩ c
      · exact .inl (decide_eq_false c1)]
    refine wpAny_execs_nil (step2 _ m acc (I.tok k') L m2 m3 l' ?_ (by omega))
    unfold stp
    rw [if_neg c]
    simp
end T57

end

section
namespace T57
open PySem PySem.Spec PyProof.Rows L2 DL
theorem sqt_go {K : Frg} {H H' : Hp} {a : Addr} {xs : List V} (h : SqT K H a xs) (g : Go H H') : SqT K H' a xs := by
  rcases h with h | h
  · rcases h with h | ⟨o, h⟩
    · exact .inl (.inl (g _ _ h))
    · exact .inl (.inr ⟨o, g _ _ h⟩)
  · exact .inr h
theorem rt_eqS {X : Cx} {s : Shared} {a b : Expr} {pos : Pos} {x y : Str} {r : Bool} (ha : RE X s a (IsS x)) (hb : RE X s b (IsS y)) (hr : (x.cps.toList == y.cps.toList) = r) (hm : behindInMarks .Eq b = false := by rfl) : RT X s (.Compare a [.Eq] [b] pos) r :=
  fun k Q E hk hq => wpAny_isTrue_Compare1 (ha k _ _ hk fun v k1 h1 ⟨t, e⟩ => by
    subst e
    exact hb k1 _ _ h1 fun u k2 h2 ⟨t2, e2⟩ => by
      subst e2
      exact PySem.P.eq_str (wpAny_truthy_bool (by rw [hr]; exact hq k2 h2))) hm
theorem aGo_len {f : Form} (h : FSm f) : ∀ i, (aGo f i).length ≤ i * 303
  | 0 => by simp [aGo]
  | i + 1 => by
    have ih := aGo_len h i
    have h2 := stp_len (acc := aGo f i) (l := compL i) (compI_sm h i)
    have h3 : (compL i).length ≤ 1 := by
      match i with
      | 0 => decide
      | 1 => decide
      | i + 2 => exact Nat.zero_le _
    show (stp (aGo f i) (compI f i) (compL i)).length ≤ _
    omega
theorem let_comp : ∀ i, LetL (compL i)
  | 0 => .inl rfl
  | 1 => .inr (.inl rfl)
  | _ + 2 => .inr (.inr rfl)
theorem aGo_3 (f : Form) : aGo f 3 = form3 f := rfl
/-- the letters as they lie -/
def letO (t : Nat) : Obj := { cls := .type "tuple", data := .seq #[.str "n" t, .str "k" (t + 1), .str "" (t + 2)] }
theorem let_at {t i : Nat} (h : i < 3) : (#[Value.str "n" t, .str "k" (t + 1), .str "" (t + 2)] : Array Value)[i]? = some (.str (S (compL i)) (t + i)) := by
  match i, h with
  | 0, _ => show some (Value.str "n" t) = some (.str (S [110]) t); rw [← lit_n]
  | 1, _ => show some (Value.str "k" (t + 1)) = some (.str (S [107]) (t + 1)); rw [← lit_k]
  | 2, _ => show some (Value.str "" (t + 2)) = some (.str (S []) (t + 2)); rw [← lit_empty]
theorem num_at {f : Form} {i : Nat} (h : i < 3) : [V.int f.n, .int f.k, .int f.c][i]? = some (.int (compI f i)) := by
  match i, h with
  | 0, _ => rfl
  | 1, _ => rfl
  | 2, _ => rfl
def tForm (K : Frg) : TS := fun D σ H => ∃ (a : Addr) (f : Form), σ = [some (.ref a), none, none, none] ∧ SqT K H a [.int f.n, .int f.k, .int f.c] ∧ FSm f ∧ ∀ H', Go H H' → D.rt (.str (S (formL f))) H'
end T57

end

section
namespace T57
open PySem PySem.Spec PyProof.Rows L2 DL RZ
def ZT (z TI TO i1 i2 a b : Addr) (i : Nat) (h : Heap) : Prop := IsZip h z TI TO .none ∧ IsPair h TI (.ref i1) (.ref i2) ∧ (∃ x y, IsPair h TO x y) ∧ h.IsTupleIter i1 a i ∧ h.IsTupleIter i2 b i
theorem form_pss {X : Cx} {CX : CXT} {fp : Addr} {k : Nat} {E : XK} {b0 b1 b2 z0 z1 z2 z3 z4 z5 z6 z7 z8 y0 y1 y2 y3 y4 y5 y6 y7 y8 y9 : Pos}
    {p1 p2 p3 p4 p5 p6 p7 p8 p9 q1 q2 q3 q4 q5 q6 q7 q8 : Pos} {body : List Stmt}
    (hbd : body = [.Assign [.Name "found" b0] (.Constant (.str "") 0 b1) b2,
      .For (.Tuple [.Name "number" z0, .Name "letter" z1] 0 z2) (.Call (.Name "zip" z3) [.Name "form" z4, .Tuple [.Constant (.str "n") 0 z5, .Constant (.str "k") 0 z6, .Constant (.str "") 0 z7] 0 z8] [] y0)
        [.If (.BoolOp .And [.Compare (.Name "number" p1) [.Gt] [.Constant (.int 0) 0 p2] p3, .Compare (.Name "found" p4) [.NotEq] [.Constant (.str "") 0 p5] p6] p7) [.AugAssign (.Name "found" p8) .Add (.Constant (.str "+") 0 p9) q1] [] q2,
          .AugAssign (.Name "found" q3) .Add (.Call (.Name "show_piece" q4) [.Name "number" q5, .Name "letter" q6] [] q7) q8] [] y1,
      .If (.Compare (.Name "found" y2) [.Eq] [.Constant (.str "") 0 y3] y4) [.Return (some (.Constant (.str "0") 0 y5)) y6] [] y7,
      .Return (some (.Name "found" y8)) y9])
    (hN : X.N = ([("form" : Str), "found", "number", "letter"] : List Str)) (k0 : X.env.kindOf "form" = some .local) (k1 : X.env.kindOf "found" = some .local) (k2 : X.env.kindOf "number" = some .local) (k3 : X.env.kindOf "letter" = some .local)
    (hz : Gl X "zip") (hmz : X.mg "zip" = none) (hg : Gl X "show_piece") (hm : X.mg "show_piece" = some (.ref fp)) (hkp : PySem.W.keepIn X.K (.ref fp) = true) (R : PieceRun X.prog X.w X.K X.mg X.base CX k fp) (hr : Room k X.A) (hx : Passes CX X E)
    (hp : PassesOwn (model X.prog X.w) X.A X.env X.xe) (hc : X.calm = true) : PSs X body (tForm X.K) := by
  refine ⟨fun pins s σ H D I h => ?_⟩
  obtain ⟨a, f, rfl, hq, hf, fin⟩ := h
  subst hbd
  have nd : X.N.Nodup := by rw [hN]; decide
  have hi0 : X.N[0]? = some ("form" : Str) := by rw [hN]; rfl
  have hi1 : X.N[1]? = some ("found" : Str) := by rw [hN]; rfl
  have hi2 : X.N[2]? = some ("number" : Str) := by rw [hN]; rfl
  have hi3 : X.N[3]? = some ("letter" : Str) := by rw [hN]; rfl
  refine wpAny_execs_cons (wpAny_Assign_Name (Calls.Constant_str ?_) rfl)
  refine wpAny_mono (PySem.wpAny_toks (store_ok (v := .str (S [])) (Q := fun _ s2 => Inv X pins [some (.ref a), some (.str (S [])), none, none] H s2) (I.tok (s.toks + 1)) nd hi1 (.inl k1) ⟨s.toks, by rw [← lit_empty]⟩ (fun _ I2 => I2) (hf := .inr k1))) (fun _ s2 q => ?_) fun _ _ z => z.2
  obtain ⟨hk2, I2⟩ := q
  have hk2 : s.toks + 1 ≤ s2.toks := hk2
  have htok : s2.toks ≠ 0 := by omega
  refine wpAny_execs_cons (wpAny_For ?_ (by intro _; rfl))
  refine wpAny_Call_Name_kw (ld_blt I2 hz hmz PyProof.Rows.boot_zip (PyProof.Rows.callWith_type1 ?_ rfl rfl))
  show wpAny _ _ (spliced ((false, eval (.Name "form" z4) X.env) :: backTo y0 (starEach [.Tuple [.Constant (.str "n") 0 z5, .Constant (.str "k") 0 z6, .Constant (.str "") 0 z7] 0 z8] X.env))) _ _ s2
  obtain ⟨m2, L2'⟩ : ∃ m, LocAt X [some (.ref a), some (.str (S [])), none, none] s2.heap m := I2.loc
  obtain ⟨u0, r0, mf⟩ := L2'.get hi0 rfl k0
  cases r0
  refine Calls.spliced_cons (wpAny_Name (wpAny_loadName_local I2.ok.kind k0 L2'.1 mf ?_) (by decide))
  show wpAny _ _ (spliced ((false, eval (.Tuple [.Constant (.str "n") 0 z5, .Constant (.str "k") 0 z6, .Constant (.str "") 0 z7] 0 z8) X.env) :: backTo y0 (starEach [] X.env))) _ _ s2
  refine Calls.spliced_cons (wpAny_Tuple_spliced ?_)
  show wpAny _ _ (spliced ((false, eval (.Constant (.str "n") 0 z5) X.env) :: backTo z8 (starEach [.Constant (.str "k") 0 z6, .Constant (.str "") 0 z7] X.env))) _ _ s2
  refine Calls.spliced_cons (Calls.Constant_str ?_)
  show wpAny _ _ (spliced ((false, eval (.Constant (.str "k") 0 z6) X.env) :: backTo z8 (starEach [.Constant (.str "") 0 z7] X.env))) _ _ _
  refine Calls.spliced_cons (Calls.Constant_str ?_)
  show wpAny _ _ (spliced ((false, eval (.Constant (.str "") 0 z7) X.env) :: backTo z8 (starEach [] X.env))) _ _ _
  refine Calls.spliced_cons (Calls.Constant_str (Calls.spliced_nil ?_))
  refine ⟨(by decide : (3 : Nat) ≤ sizeLine), Calls.spliced_nil ?_⟩
  have hb0 : H s2.heap.objs.size = none := I2.hok.fresh (Nat.le_refl _)
  have I3 : Inv X pins [some (.ref a), some (.str (S [])), none, none] (upd H s2.heap.objs.size (.frz (letO s2.toks) (.tup [.str "n", .str "k", .str ""]))) { s2 with heap := s2.heap.push (letO s2.toks), toks := s2.toks + 3 } :=
    I2.laid (t' := s2.toks + 3) (fun b u e => Heap.get?_push_of_some _ e) (Nat.le_refl _) ⟨Heap.get?_push_size _ rfl, (by decide : (3 : Nat) ≤ sizeLine), [.str "n" s2.toks, .str "k" (s2.toks + 1), .str "" (s2.toks + 2)], .cons ⟨_, rfl⟩ (.cons ⟨_, rfl⟩ (.cons ⟨_, rfl⟩ .nil)), ⟨_, Heap.get?_push_size _ rfl, rfl, _, rfl⟩⟩
  have g3 : Go H (upd H s2.heap.objs.size (.frz (letO s2.toks) (.tup [.str "n", .str "k", .str ""]))) := fun b u e => by
    rw [upd_ne (fun z => by rw [z, hb0] at e; cases e)]
    exact e
  have hb3 : upd H s2.heap.objs.size (.frz (letO s2.toks) (.tup [.str "n", .str "k", .str ""])) s2.heap.objs.size = some (.frz (letO s2.toks) (.tup [.str "n", .str "k", .str ""])) := upd_same
  show wpAny _ _ (call (.type "zip") [.ref a, .ref s2.heap.objs.size]) _ _ { s2 with heap := s2.heap.push (letO s2.toks), toks := s2.toks + 3 }
  obtain ⟨s3, hs3⟩ : ∃ s3 : Shared, s3 = { s2 with heap := s2.heap.push (letO s2.toks), toks := s2.toks + 3 } := ⟨_, rfl⟩
  have tk3 : s3.toks = s2.toks + 3 := by rw [hs3]
  rw [← hs3] at I3 ⊢
  generalize upd H s2.heap.objs.size (.frz (letO s2.toks) (.tup [.str "n", .str "k", .str ""])) = H3 at I3 g3 hb3
  generalize s2.heap.objs.size = b at hb3
  clear hs3
  have qa : SqT X.K H3 a [.int f.n, .int f.k, .int f.c] := sqt_go hq g3
  have qb : SqT X.K H3 b [.str "n", .str "k", .str ""] := .inl (.inr ⟨_, hb3⟩)
  have gb : ∀ {H' : Hp} {s' : Shared} {x1 x2 x3 : Option V} {pp : List (Addr × Obj)}, Inv X pp [some (.ref a), x1, x2, x3] H' s' → Go H3 H' → IsTup s'.heap b #[.str "n" s2.toks, .str "k" (s2.toks + 1), .str "" (s2.toks + 2)] := fun I' g' => by
    obtain ⟨e, _⟩ := I'.hok b _ (g' _ _ hb3)
    exact ⟨_, e, rfl, _, rfl⟩
  obtain ⟨its, rv, pa, _⟩ := I3.tuple qa
  have pb := gb I3 (Go.refl _)
  refine call_zipT (show s3.heap.IsTuple a its.toArray from pa) (show s3.heap.IsTuple b _ from pb) fun h' hzz hTI hTO hh1 hh2 hsz hkk => wpAny_pyIter_zip hzz ?_
  have I4 : Inv X pins [some (.ref a), some (.str (S [])), none, none] H3 { s3 with heap := h' } := I3.kept (t' := s3.toks) hkk
  have D5 : ZipApart (s3.heap.objs.size + 4) (s3.heap.objs.size + 2) (s3.heap.objs.size + 3) s3.heap.objs.size (s3.heap.objs.size + 1) a b := by
    obtain ⟨o1, ho1, _⟩ := id pa
    obtain ⟨o2, ho2, _⟩ := id pb
    exact PySem.W.ktu_apart s3.heap.objs.size a b (Heap.lt_size ho1) (Heap.lt_size ho2)
  have fresh5 : ∀ c, c ∈ [s3.heap.objs.size + 4, s3.heap.objs.size + 2, s3.heap.objs.size + 3, s3.heap.objs.size, s3.heap.objs.size + 1] → FpOk X pins H3 c := fun c hcm => by
    have hle : s3.heap.objs.size ≤ c := by
      simp only [List.mem_cons, List.not_mem_nil, or_false] at hcm
      omega
    exact I3.fpOk hle (I3.hok.fresh hle)
  have st0 : ZT (s3.heap.objs.size + 4) (s3.heap.objs.size + 2) (s3.heap.objs.size + 3) s3.heap.objs.size (s3.heap.objs.size + 1) a b 0 h' := ⟨hzz, hTI, ⟨_, _, hTO⟩, hh1, hh2⟩
  have T := turn_zipT (P := X.prog) (w := X.w) (K := X.K) (elts := [.Name "number" z0, .Name "letter" z1]) (kk := 0) (tpos := z2) D5
  generalize s3.heap.objs.size + 4 = z at *
  generalize s3.heap.objs.size + 2 = TI at *
  generalize s3.heap.objs.size + 3 = TO at *
  generalize s3.heap.objs.size + 1 = i2 at *
  generalize s3.heap.objs.size = i1 at *
  have stat : ∀ {H' : Hp}, (∀ c ∈ [z, TI, TO, i1, i2], H' c = none) → ∀ c ∈ [z, TI, TO, i1, i2], FpOk X pins H' c := fun hn c hcm => ⟨hn c hcm, (fresh5 c hcm).2⟩
  refine codeAny_forLoop_any (fun n s' => ∃ i H' x2 x3, n = 3 - i ∧ i ≤ 3 ∧ Inv X pins [some (.ref a), some (.str (S (aGo f i))), x2, x3] H' s' ∧ ZT z TI TO i1 i2 a b i s'.heap ∧ (∀ c ∈ [z, TI, TO, i1, i2], H' c = none) ∧ Go H3 H' ∧ s3.toks ≤ s'.toks) ?_ 3 ⟨0, H3, none, none, rfl, by decide, I4, st0, fun c hcm => (fresh5 c hcm).1, Go.refl _, Nat.le_refl _⟩
  rintro n s5 ⟨i, H5, x2, x3, rfl, hi, I5, st5, fr5, g5, tk5⟩
  have fr5 : ∀ c ∈ [z, TI, TO, i1, i2], H5 c = none := fr5
  by_cases hlt : i < 3
  · obtain ⟨hzz5, hTI5, ⟨v0, v1, hTO5⟩, hh15, hh25⟩ := id st5
    obtain ⟨its5, rv5, pa5, _⟩ := I5.tuple (sqt_go qa g5)
    have pb5 := gb I5 g5
    obtain ⟨u, hu, tn, rfl⟩ := rv5.get (num_at (f := f) hlt)
    have hul := let_at (t := s2.toks) hlt
    have hzl : z < s5.heap.objs.size := Heap.lt_size hzz5
    refine wpAny_passesOwn hp (pyNext_zipT_item D5 hzz5 hTI5 hTO5 hh15 hh25 pa5 pb5 (x := .int (compI f i) tn) (by simpa using hu) hul fun h1' z' TO' h1'' h2'' hT hsz1 hk1 => ?_)
    refine wpAny_passesOwn hp (wpAny_letOwnedTupleGo_zip (s := { s5 with heap := h1' }) z' fun h2' z'' sb => ?_)
    have hT2 : h2'.get? s5.heap.objs.size = some { cls := .type "tuple", data := .seq #[.int (compI f i) tn, .str (S (compL i)) (s2.toks + i)] } := (sb.2 _ (Nat.ne_of_gt hzl)).trans hT
    have new : ObjOk X.prog X.w (upd H5 s5.heap.objs.size (.tup [.int (compI f i), .str (S (compL i))])) h2' s5.heap.objs.size (.tup [.int (compI f i), .str (S (compL i))]) :=
      ⟨by show 2 ≤ sizeLine; decide, [.int (compI f i) tn, .str (S (compL i)) (s2.toks + i)], .cons ⟨_, rfl⟩ (.cons ⟨_, rfl⟩ .nil), ⟨_, hT2, rfl, _, rfl⟩⟩
    have I6 : Inv X pins [some (.ref a), some (.str (S (aGo f i))), x2, x3] (upd H5 s5.heap.objs.size (.tup [.int (compI f i), .str (S (compL i))])) { s5 with heap := h2' } :=
      I5.turnedNew (t' := s5.toks) (ch := [z, TI, TO, i1, i2]) (fun c o hb q => (sb.2 c (fun q' => hb (by simp [q']))).trans (hk1 c o (fun q' => hb (by simp [q'])) (fun q' => hb (by simp [q'])) (fun q' => hb (by simp [q'])) (fun q' => hb (by simp [q'])) q)) (stat fr5) (Nat.le_refl _) new
    have hn6 : H5 s5.heap.objs.size = none := I5.hok.fresh (Nat.le_refl _)
    have st6 : ZT z TI TO i1 i2 a b (i + 1) h2' := ⟨z'', (sb.2 _ D5.TIz).trans (hk1 _ _ D5.TIz D5.TITO D5.TIi1 D5.TIi2 hTI5), ⟨_, _, (sb.2 _ D5.TOz).trans TO'⟩, h1''.at fun o q => (sb.2 _ D5.i1z).trans q, h2''.at fun o q => (sb.2 _ D5.i2z).trans q⟩
    have fr6 : ∀ c ∈ [z, TI, TO, i1, i2], upd H5 s5.heap.objs.size (.tup [.int (compI f i), .str (S (compL i))]) c = none := fun c hcm => by
      have hlt2 : c < s5.heap.objs.size := by
        have e' : c = z ∨ c = TI ∨ c = TO ∨ c = i1 ∨ c = i2 := by simpa using hcm
        rcases e' with q | q | q | q | q
        · rw [q]; exact hzl
        · rw [q]; exact Heap.lt_size hTI5
        · rw [q]; exact Heap.lt_size hTO5
        · rw [q]; obtain ⟨_, e1, _⟩ := hh15; exact Heap.lt_size e1
        · rw [q]; obtain ⟨_, e2, _⟩ := hh25; exact Heap.lt_size e2
      rw [upd_ne (Nat.ne_of_lt hlt2)]
      exact fr5 c hcm
    have g6 : Go H5 (upd H5 s5.heap.objs.size (.tup [.int (compI f i), .str (S (compL i))])) := fun c o e => by
      rw [upd_ne (fun q => by rw [q, hn6] at e; cases e)]
      exact e
    have I6' := I6.pinned (stat fr6) (T.obj (i + 1) h2' st6)
    refine wpAny_passesOwn hp (assign_Tuple_tuple (I6.ok.hd hc) (show IsTup h2' s5.heap.objs.size #[.int (compI f i) tn, .str (S (compL i)) (s2.toks + i)] from ⟨_, hT2, rfl, _, rfl⟩) rfl rfl fun h3 hx3 => ?_)
    have I7 := I6'.kept (h' := h3) (t' := s5.toks) fun c o e => hx3 c o (Nat.ne_of_lt (Heap.lt_size e)) e
    obtain ⟨m7, L7⟩ : ∃ m, LocAt X [some (.ref a), some (.str (S (aGo f i))), x2, x3] h3 m := I7.loc
    show wpAny _ _ (assignInOrder [assign (.Name "number" z0) X.env, assign (.Name "letter" z1) X.env] [.int (compI f i) tn, .str (S (compL i)) (s2.toks + i)]) _ _ { s5 with heap := h3 }
    refine assignInOrder_cons (wpAny_assign_Name (store_okE (v := .int (compI f i)) I7 L7 nd hi2 k2 ⟨_, rfl⟩ fun h4 I8 L8 => ?_))
    refine assignInOrder_cons (wpAny_assign_Name (store_okE (v := .str (S (compL i))) I8 L8 nd hi3 k3 ⟨_, rfl⟩ fun h5 I9 L9 => assignInOrder_nil ?_))
    have hlen := aGo_len hf i
    have t0 : s2.toks + i ≠ 0 := by omega
    have t1 : s2.toks + i < s5.toks + 1 + 1 := by omega
    refine wpAny_passesOwn hp (wpAny_mono (PySem.wpAny_toks (turn_body (Q := fun fl s' => fl = .next ∧ Inv X (pins ++ pinsAt [z, TI, TO, i1, i2] h2') [some (.ref a), some (.str (S (stp (aGo f i) (compI f i) (compL i)))), some (.int (compI f i)), some (.str (S (compL i)))] (upd H5 s5.heap.objs.size (.tup [.int (compI f i), .str (S (compL i))])) s') rfl hN k1 k2 k3 hg hm hkp R hr hx I9 L9 rfl (tn := tn) (tc := s2.toks + i) ?_ ?_ t0 t1 (let_comp i) (compI_sm hf i) (by omega) fun s' I' => ⟨rfl, I'⟩)) (fun fl s10 q => ?_) fun _ _ z => z.2)
    · unfold setM
      rw [if_neg (by decide), if_pos rfl]
    · unfold setM
      rw [if_pos rfl]
    · obtain ⟨tk10, rfl, I10⟩ := q
      have tk10 : s5.toks + 1 + 1 ≤ s10.toks := tk10
      exact ⟨3 - (i + 1), by omega, i + 1, _, _, _, rfl, by omega, I10.unpinned, T.keep (i + 1) h2' _ st6 fun c hc' o e => (I10.pin (c, o) (List.mem_append_right _ (List.mem_append_right _ (mem_pinsAt hc' e)))).1, fr6, g5.trans g6, by omega⟩
  · have hi' : i = 3 := by omega
    subst hi'
    refine wpAny_passesOwn hp (thn (T.done X rfl rfl rfl hc 3 pins s5 _ H5 X.xe I5 (stat fr5) st5 ⟨_, _, sqt_go qa g5, sqt_go qb g5, .inl (Nat.le_refl _)⟩) fun r s6 ⟨hr6, I6⟩ => ?_)
    subst hr6
    refine wpAny_execs_nil ?_
    obtain ⟨m6, L6⟩ : ∃ m, LocAt X [some (.ref a), some (.str (S (aGo f 3))), x2, x3] s6.heap m := I6.loc
    obtain ⟨u6, ⟨t6, rfl⟩, mf6⟩ := L6.get hi1 rfl k1
    have hres := fin H5 (g3.trans g5)
    rw [aGo_3] at mf6 I6
    refine wpAny_execs_cons (wpAny_If ((rt_eqS (re_name I6.ok.kind k1 L6.1 mf6 ⟨t6, rfl⟩) re_str rfl) s6.toks _ _ (Nat.le_refl _) fun k' l' => ?_))
    have e0 : ((S (form3 f)).cps.toList == ("" : Str).cps.toList) = decide (form3 f = []) := by
      rw [S_toList]
      have : ("" : Str).cps.toList = [] := by decide +kernel
      rw [this]
      cases form3 f <;> rfl
    rw [e0]
    unfold formL at hres
    by_cases c : form3 f = []
    · rw [if_pos c] at hres
      rw [decide_eq_true c]
      exact wpAny_execs_cons (wpAny_Return_some (Calls.Constant_str ⟨.str (S [48]), _, H5, I6.tok _, ⟨_, by rw [← lit_0]⟩, hres⟩))
    · rw [if_neg c] at hres
      rw [decide_eq_false c]
      refine wpAny_execs_nil (wpAny_execs_cons (wpAny_Return_some (wpAny_Name (wpAny_loadName_local I6.ok.kind k1 L6.1 mf6 ?_) (by decide))))
      exact ⟨.str (S (form3 f)), _, H5, I6.tok _, ⟨_, rfl⟩, hres⟩
end T57

end

set_option maxHeartbeats 0
namespace T57
open PySem PySem.Spec PyProof.Rows L2 DL
def N_show_piece : List Str := ["number", "letter"]

def N_show_form : List Str := ["form", "found", "number", "letter"]

def top (i : Nat) : Stmt := PySem.Challenge.pw_sumcraft_k57_terms_written_and_read.main.body.getD i (.Pass ⟨0, 0, 0, 0⟩)
abbrev t__law_cell_at : Stmt := top 45
abbrev t__law_mixed : Stmt := top 48
abbrev t__law_forms : Stmt := top 49
abbrev t__law_number : Stmt := top 46
abbrev t__law_divisor : Stmt := top 47
abbrev t__law_ratio : Stmt := top 50
abbrev t__law_part : Stmt := top 51
abbrev t__law_parts : Stmt := top 52
abbrev t_within : Stmt := top 25
abbrev t_is_choose : Stmt := top 26
abbrev t_Choose___init__ : Stmt := (cBody (top 19)).getD 0 (.Pass ⟨0, 0, 0, 0⟩)
abbrev t_Weight___init__ : Stmt := (cBody (top 20)).getD 0 (.Pass ⟨0, 0, 0, 0⟩)
abbrev t_Power___init__ : Stmt := (cBody (top 21)).getD 0 (.Pass ⟨0, 0, 0, 0⟩)
abbrev t_Growth___init__ : Stmt := (cBody (top 22)).getD 0 (.Pass ⟨0, 0, 0, 0⟩)
abbrev t_made_part : Stmt := top 27
abbrev t_Term___init__ : Stmt := (cBody (top 28)).getD 0 (.Pass ⟨0, 0, 0, 0⟩)
abbrev t__law_form_text : Stmt := top 53
abbrev t__law_ratio_text : Stmt := top 54
abbrev t__law_part_text : Stmt := top 55
abbrev t_Term_told : Stmt := (cBody (top 28)).getD 1 (.Pass ⟨0, 0, 0, 0⟩)
abbrev t_show_piece : Stmt := top 33
abbrev t_show_form : Stmt := top 34
abbrev t_show_ratio : Stmt := top 32
abbrev t_show_part : Stmt := top 35
abbrev t_show_term : Stmt := top 36
abbrev t_pieces_of : Stmt := top 39
abbrev t_number_of : Stmt := top 37
abbrev t_form_of : Stmt := top 40
abbrev t_choose_of : Stmt := top 41
abbrev t_divisor : Stmt := top 6
abbrev t_ratio_of : Stmt := top 38
abbrev t_part_of : Stmt := top 42
abbrev t_read_term : Stmt := top 43
abbrev t__law_read : Stmt := top 56
abbrev t__law_small : Stmt := top 58
abbrev t__law_refused : Stmt := top 57
abbrev t_law : Stmt := top 59
def df__law_cell_at : He.DefD := ⟨("_law_cell_at", none), "_law_cell_at", "_law_cell_at", defArgs t__law_cell_at, defBody t__law_cell_at, defScope t__law_cell_at, [], []⟩
def df__law_mixed : He.DefD := ⟨("_law_mixed", none), "_law_mixed", "_law_mixed", defArgs t__law_mixed, defBody t__law_mixed, defScope t__law_mixed, [], []⟩
def df__law_forms : He.DefD := ⟨("_law_forms", none), "_law_forms", "_law_forms", defArgs t__law_forms, defBody t__law_forms, defScope t__law_forms, [], []⟩
def df__law_number : He.DefD := ⟨("_law_number", none), "_law_number", "_law_number", defArgs t__law_number, defBody t__law_number, defScope t__law_number, [], []⟩
def df__law_divisor : He.DefD := ⟨("_law_divisor", none), "_law_divisor", "_law_divisor", defArgs t__law_divisor, defBody t__law_divisor, defScope t__law_divisor, [], []⟩
def df__law_ratio : He.DefD := ⟨("_law_ratio", none), "_law_ratio", "_law_ratio", defArgs t__law_ratio, defBody t__law_ratio, defScope t__law_ratio, [], []⟩
def df__law_part : He.DefD := ⟨("_law_part", none), "_law_part", "_law_part", defArgs t__law_part, defBody t__law_part, defScope t__law_part, [], []⟩
def df__law_parts : He.DefD := ⟨("_law_parts", none), "_law_parts", "_law_parts", defArgs t__law_parts, defBody t__law_parts, defScope t__law_parts, [], []⟩
def df_within : He.DefD := ⟨("within", none), "within", "within", defArgs t_within, defBody t_within, defScope t_within, [], []⟩
def df_is_choose : He.DefD := ⟨("is_choose", none), "is_choose", "is_choose", defArgs t_is_choose, defBody t_is_choose, defScope t_is_choose, [], []⟩
def df_Choose___init__ : He.DefD := ⟨("Choose", some "__init__"), "__init__", "Choose.__init__", defArgs t_Choose___init__, defBody t_Choose___init__, defScope t_Choose___init__, [], []⟩
def df_Weight___init__ : He.DefD := ⟨("Weight", some "__init__"), "__init__", "Weight.__init__", defArgs t_Weight___init__, defBody t_Weight___init__, defScope t_Weight___init__, [], []⟩
def df_Power___init__ : He.DefD := ⟨("Power", some "__init__"), "__init__", "Power.__init__", defArgs t_Power___init__, defBody t_Power___init__, defScope t_Power___init__, [], []⟩
def df_Growth___init__ : He.DefD := ⟨("Growth", some "__init__"), "__init__", "Growth.__init__", defArgs t_Growth___init__, defBody t_Growth___init__, defScope t_Growth___init__, [], []⟩
def df_made_part : He.DefD := ⟨("made_part", none), "made_part", "made_part", defArgs t_made_part, defBody t_made_part, defScope t_made_part, [], []⟩
def df_Term___init__ : He.DefD := ⟨("Term", some "__init__"), "__init__", "Term.__init__", defArgs t_Term___init__, defBody t_Term___init__, defScope t_Term___init__, [], []⟩
def df__law_form_text : He.DefD := ⟨("_law_form_text", none), "_law_form_text", "_law_form_text", defArgs t__law_form_text, defBody t__law_form_text, defScope t__law_form_text, [], []⟩
def df__law_ratio_text : He.DefD := ⟨("_law_ratio_text", none), "_law_ratio_text", "_law_ratio_text", defArgs t__law_ratio_text, defBody t__law_ratio_text, defScope t__law_ratio_text, [], []⟩
def df__law_part_text : He.DefD := ⟨("_law_part_text", none), "_law_part_text", "_law_part_text", defArgs t__law_part_text, defBody t__law_part_text, defScope t__law_part_text, [], []⟩
def df_Term_told : He.DefD := ⟨("Term", some "told"), "told", "Term.told", defArgs t_Term_told, defBody t_Term_told, defScope t_Term_told, [], []⟩
def df_show_piece : He.DefD := ⟨("show_piece", none), "show_piece", "show_piece", defArgs t_show_piece, defBody t_show_piece, defScope t_show_piece, [], []⟩
def df_show_form : He.DefD := ⟨("show_form", none), "show_form", "show_form", defArgs t_show_form, defBody t_show_form, defScope t_show_form, [], []⟩
def df_show_ratio : He.DefD := ⟨("show_ratio", none), "show_ratio", "show_ratio", defArgs t_show_ratio, defBody t_show_ratio, defScope t_show_ratio, [], []⟩
def df_show_part : He.DefD := ⟨("show_part", none), "show_part", "show_part", defArgs t_show_part, defBody t_show_part, defScope t_show_part, [], []⟩
def df_show_term : He.DefD := ⟨("show_term", none), "show_term", "show_term", defArgs t_show_term, defBody t_show_term, defScope t_show_term, [], []⟩
def df_pieces_of : He.DefD := ⟨("pieces_of", none), "pieces_of", "pieces_of", defArgs t_pieces_of, defBody t_pieces_of, defScope t_pieces_of, [], []⟩
def df_number_of : He.DefD := ⟨("number_of", none), "number_of", "number_of", defArgs t_number_of, defBody t_number_of, defScope t_number_of, [], []⟩
def df_form_of : He.DefD := ⟨("form_of", none), "form_of", "form_of", defArgs t_form_of, defBody t_form_of, defScope t_form_of, [], []⟩
def df_choose_of : He.DefD := ⟨("choose_of", none), "choose_of", "choose_of", defArgs t_choose_of, defBody t_choose_of, defScope t_choose_of, [], []⟩
def df_divisor : He.DefD := ⟨("divisor", none), "divisor", "divisor", defArgs t_divisor, defBody t_divisor, defScope t_divisor, [], []⟩
def df_ratio_of : He.DefD := ⟨("ratio_of", none), "ratio_of", "ratio_of", defArgs t_ratio_of, defBody t_ratio_of, defScope t_ratio_of, [], []⟩
def df_part_of : He.DefD := ⟨("part_of", none), "part_of", "part_of", defArgs t_part_of, defBody t_part_of, defScope t_part_of, [], []⟩
def df_read_term : He.DefD := ⟨("read_term", none), "read_term", "read_term", defArgs t_read_term, defBody t_read_term, defScope t_read_term, [], []⟩
def df__law_read : He.DefD := ⟨("_law_read", none), "_law_read", "_law_read", defArgs t__law_read, defBody t__law_read, defScope t__law_read, [], []⟩
def df__law_small : He.DefD := ⟨("_law_small", none), "_law_small", "_law_small", defArgs t__law_small, defBody t__law_small, defScope t__law_small, [], []⟩
def df__law_refused : He.DefD := ⟨("_law_refused", none), "_law_refused", "_law_refused", defArgs t__law_refused, defBody t__law_refused, defScope t__law_refused, [], []⟩
def df_law : He.DefD := ⟨("law", none), "law", "law", defArgs t_law, defBody t_law, defScope t_law, [], []⟩
def fn : List He.DefD := [df__law_cell_at, df__law_mixed, df__law_forms, df__law_number, df__law_divisor, df__law_ratio, df__law_part, df__law_parts, df_within, df_is_choose, df_Choose___init__, df_Weight___init__, df_Power___init__, df_Growth___init__, df_made_part, df_Term___init__, df__law_form_text, df__law_ratio_text, df__law_part_text, df_Term_told, df_show_piece, df_show_form, df_show_ratio, df_show_part, df_show_term, df_pieces_of, df_number_of, df_form_of, df_choose_of, df_divisor, df_ratio_of, df_part_of, df_read_term, df__law_read, df__law_small, df__law_refused, df_law]
def fa : List He.Fa := [.free "len", .free "range", .free "abs", .free "tuple", .int "MOST" 6, .exc "NoTerm", .glo "NoTerm", .free "min", .free "max", .cls "Choose", .noat "Choose" "high", .noat "Choose" "lows", .cls "Weight", .noat "Weight" "form", .cls "Power", .noat "Power" "fraction", .cls "Growth", .noat "Growth" "fraction", .cls "Term", .noat "Term" "made", .free "list", .noat "Term" "words", .free "str", .free "int", .free "zip", .free "isinstance", .int "LONGEST" 60, .str "FIGURES" "0123456789", .glo "Term", .exm "NoTerm" "NoTerm" true, .glo "_law_cell_at", .glo "_law_mixed", .glo "_law_forms", .glo "_law_number", .glo "_law_divisor", .glo "_law_ratio", .glo "_law_part", .glo "_law_parts", .glo "within", .glo "is_choose", .mkr "Choose", .glo "Choose", .mkr "Weight", .glo "Weight", .mkr "Power", .glo "Power", .mkr "Growth", .glo "Growth", .glo "made_part", .mkr "Term", .glo "_law_form_text", .glo "_law_ratio_text", .glo "_law_part_text", .meth "Term" "told", .glo "show_piece", .glo "show_form", .glo "show_ratio", .glo "show_part", .glo "show_term", .glo "pieces_of", .glo "number_of", .glo "form_of", .glo "choose_of", .glo "divisor", .glo "ratio_of", .glo "part_of", .glo "read_term", .glo "_law_read", .glo "_law_small", .glo "_law_refused", .glo "law"]
def bs : List (Frg → Bool) := [insB "Term"]
theorem sc__law_cell_at : FnScope N__law_cell_at ["_law_script", "_law_k"] (defScope t__law_cell_at) := ⟨rfl, rfl, rfl, by decide +kernel, rfl, by decide +kernel, by decide +kernel⟩
theorem sc__law_mixed : FnScope N__law_mixed ["_law_cell", "_law_k"] (defScope t__law_mixed) := ⟨rfl, rfl, rfl, by decide +kernel, rfl, by decide +kernel, by decide +kernel⟩
theorem sc__law_forms : FnScope N__law_forms ["_law_one", "_law_other", "_law_most"] (defScope t__law_forms) := ⟨rfl, rfl, rfl, by decide +kernel, rfl, by decide +kernel, by decide +kernel⟩
theorem sc__law_number : FnScope N__law_number ["_law_cell", "_law_most"] (defScope t__law_number) := ⟨rfl, rfl, rfl, by decide +kernel, rfl, by decide +kernel, by decide +kernel⟩
theorem sc__law_divisor : FnScope N__law_divisor ["_law_one", "_law_other"] (defScope t__law_divisor) := ⟨rfl, rfl, rfl, by decide +kernel, rfl, by decide +kernel, by decide +kernel⟩
theorem sc__law_ratio : FnScope N__law_ratio ["_law_one", "_law_other"] (defScope t__law_ratio) := ⟨rfl, rfl, rfl, by decide +kernel, rfl, by decide +kernel, by decide +kernel⟩
theorem sc__law_part : FnScope N__law_part ["_law_cells", "_law_most"] (defScope t__law_part) := ⟨rfl, rfl, rfl, by decide +kernel, rfl, by decide +kernel, by decide +kernel⟩
theorem sc__law_parts : FnScope N__law_parts ["_law_script", "_law_mosts"] (defScope t__law_parts) := ⟨rfl, rfl, rfl, by decide +kernel, rfl, by decide +kernel, by decide +kernel⟩
theorem sc_within : FnScope N_within ["form", "least", "greatest", "last"] (defScope t_within) := ⟨rfl, rfl, rfl, by decide +kernel, rfl, by decide +kernel, by decide +kernel⟩
theorem sc_is_choose : FnScope N_is_choose ["upper", "lower"] (defScope t_is_choose) := ⟨rfl, rfl, rfl, by decide +kernel, rfl, by decide +kernel, by decide +kernel⟩
theorem sc_Choose___init__ : FnScope N_Choose___init__ ["self", "high", "low"] (defScope t_Choose___init__) := ⟨rfl, rfl, rfl, by decide +kernel, rfl, by decide +kernel, by decide +kernel⟩
theorem sc_Weight___init__ : FnScope N_Weight___init__ ["self", "form"] (defScope t_Weight___init__) := ⟨rfl, rfl, rfl, by decide +kernel, rfl, by decide +kernel, by decide +kernel⟩
theorem sc_Power___init__ : FnScope N_Power___init__ ["self", "fraction"] (defScope t_Power___init__) := ⟨rfl, rfl, rfl, by decide +kernel, rfl, by decide +kernel, by decide +kernel⟩
theorem sc_Growth___init__ : FnScope N_Growth___init__ ["self", "fraction"] (defScope t_Growth___init__) := ⟨rfl, rfl, rfl, by decide +kernel, rfl, by decide +kernel, by decide +kernel⟩
theorem sc_made_part : FnScope N_made_part ["part"] (defScope t_made_part) := ⟨rfl, rfl, rfl, by decide +kernel, rfl, by decide +kernel, by decide +kernel⟩
theorem sc_Term___init__ : FnScope N_Term___init__ ["self", "parts"] (defScope t_Term___init__) := ⟨rfl, rfl, rfl, by decide +kernel, rfl, by decide +kernel, by decide +kernel⟩
theorem sc__law_form_text : FnScope N__law_form_text ["_law_form"] (defScope t__law_form_text) := ⟨rfl, rfl, rfl, by decide +kernel, rfl, by decide +kernel, by decide +kernel⟩
theorem sc__law_ratio_text : FnScope N__law_ratio_text ["_law_fraction"] (defScope t__law_ratio_text) := ⟨rfl, rfl, rfl, by decide +kernel, rfl, by decide +kernel, by decide +kernel⟩
theorem sc__law_part_text : FnScope N__law_part_text ["_law_part_here"] (defScope t__law_part_text) := ⟨rfl, rfl, rfl, by decide +kernel, rfl, by decide +kernel, by decide +kernel⟩
theorem sc_Term_told : FnScope N_Term_told ["self"] (defScope t_Term_told) := ⟨rfl, rfl, rfl, by decide +kernel, rfl, by decide +kernel, by decide +kernel⟩
theorem sc_show_piece : FnScope N_show_piece ["number", "letter"] (defScope t_show_piece) := ⟨rfl, rfl, rfl, by decide +kernel, rfl, by decide +kernel, by decide +kernel⟩
theorem sc_show_form : FnScope N_show_form ["form"] (defScope t_show_form) := ⟨rfl, rfl, rfl, by decide +kernel, rfl, by decide +kernel, by decide +kernel⟩
theorem sc_show_ratio : FnScope N_show_ratio ["fraction"] (defScope t_show_ratio) := ⟨rfl, rfl, rfl, by decide +kernel, rfl, by decide +kernel, by decide +kernel⟩
theorem sc_show_part : FnScope N_show_part ["part"] (defScope t_show_part) := ⟨rfl, rfl, rfl, by decide +kernel, rfl, by decide +kernel, by decide +kernel⟩
theorem sc_show_term : FnScope N_show_term ["term"] (defScope t_show_term) := ⟨rfl, rfl, rfl, by decide +kernel, rfl, by decide +kernel, by decide +kernel⟩
theorem sc_pieces_of : FnScope N_pieces_of ["text"] (defScope t_pieces_of) := ⟨rfl, rfl, rfl, by decide +kernel, rfl, by decide +kernel, by decide +kernel⟩
theorem sc_number_of : FnScope N_number_of ["text"] (defScope t_number_of) := ⟨rfl, rfl, rfl, by decide +kernel, rfl, by decide +kernel, by decide +kernel⟩
theorem sc_form_of : FnScope N_form_of ["text"] (defScope t_form_of) := ⟨rfl, rfl, rfl, by decide +kernel, rfl, by decide +kernel, by decide +kernel⟩
theorem sc_choose_of : FnScope N_choose_of ["text"] (defScope t_choose_of) := ⟨rfl, rfl, rfl, by decide +kernel, rfl, by decide +kernel, by decide +kernel⟩
theorem sc_divisor : FnScope N_divisor ["one", "other"] (defScope t_divisor) := ⟨rfl, rfl, rfl, by decide +kernel, rfl, by decide +kernel, by decide +kernel⟩
theorem sc_ratio_of : FnScope N_ratio_of ["text"] (defScope t_ratio_of) := ⟨rfl, rfl, rfl, by decide +kernel, rfl, by decide +kernel, by decide +kernel⟩
theorem sc_part_of : FnScope N_part_of ["text"] (defScope t_part_of) := ⟨rfl, rfl, rfl, by decide +kernel, rfl, by decide +kernel, by decide +kernel⟩
theorem sc_read_term : FnScope N_read_term ["text"] (defScope t_read_term) := ⟨rfl, rfl, rfl, by decide +kernel, rfl, by decide +kernel, by decide +kernel⟩
theorem sc__law_read : FnScope N__law_read ["_law_line", "_law_parts_here"] (defScope t__law_read) := ⟨rfl, rfl, rfl, by decide +kernel, rfl, by decide +kernel, by decide +kernel⟩
theorem sc__law_small : FnScope N__law_small ["_law_one", "_law_other"] (defScope t__law_small) := ⟨rfl, rfl, rfl, by decide +kernel, rfl, by decide +kernel, by decide +kernel⟩
theorem sc__law_refused : FnScope N__law_refused ["_law_line"] (defScope t__law_refused) := ⟨rfl, rfl, rfl, by decide +kernel, rfl, by decide +kernel, by decide +kernel⟩
theorem sc_law : FnScope N_law ["_law_script"] (defScope t_law) := ⟨rfl, rfl, rfl, by decide +kernel, rfl, by decide +kernel, by decide +kernel⟩
section
variable {P : Program} {w : World} {K : Frg} {mg : Str → Option Value} {base : Heap}
theorem ok__law_cell_at (F : Fx fa fn bs K mg base) : GFn P w K mg base "_law_cell_at" 1 false FS__law_cell_at := by
  obtain ⟨fd, D⟩ := F.says.def_ 0 (d := df__law_cell_at) rfl
  exact ⟨_, fd, _, fn_okD D sc__law_cell_at (fun _ => rfl) (fun cdv A outer s H E hr tk hp => ⟨_, (dss_cons (ds_if (dt_lt (db_var 1) (de_len (F.free 0) (dab_cons (db_var 0) dab_nil)).b) (dss_one (ds_ret (de_ix (db_var 0) (db_var 1)))) dss_nil)
  (dss_one (ds_ret de_int)))⟩) hm__law_cell_at, F.glo 30, D.kp, D.bindsN fun _ _ _ _ _ _ us hl => match us, hl with | [_, _], _ => rfl⟩
theorem ok__law_mixed (F : Fx fa fn bs K mg base) : GFn P w K mg base "_law_mixed" 1 false FS__law_mixed := by
  obtain ⟨fd, D⟩ := F.says.def_ 1 (d := df__law_mixed) rfl
  exact ⟨_, fd, _, fn_okD D sc__law_mixed (fun _ => rfl) (fun cdv A outer s H E hr tk hp => ⟨_, (dss_cons (ds_if (dt_eq (roomU hr) (de_mod (db_var 0) de_int.b).b de_int.b) (dss_cons (ds_set (i := 2) sc__law_mixed.nd (de_fdiv (de_abs (F.free 2) (dab_cons (db_var 0) dab_nil)).b de_int.b))
  (dss_cons (ds_for hp rfl (di_range1 (by rfl) (F.free 1) (dab_cons (db_var 1) dab_nil)) (dg_name (i := 3) sc__law_mixed.nd) (dss_one (ds_set (i := 2) sc__law_mixed.nd (de_fdiv (db_var 2) (de_pow de_int.b de_int.b).b))))
  (dss_one (ds_ret (de_var 2))))) dss_nil)
  (dss_cons (ds_set (i := 2) sc__law_mixed.nd (de_mod (de_add (db_var 0) (de_mul de_int.b (db_var 1)).b).b de_int.b))
  (dss_cons (ds_set (i := 2) sc__law_mixed.nd (de_mod (de_add (de_add (de_mul (db_var 2) (db_var 2)).b (de_mul de_int.b (db_var 2)).b).b (db_var 1)).b de_int.b))
  (dss_one (ds_ret (de_mod (de_mul (db_var 2) (db_var 2)).b de_int.b))))))⟩) hm__law_mixed, F.glo 31, D.kp, D.bindsN fun _ _ _ _ _ _ us hl => match us, hl with | [_, _], _ => rfl⟩
theorem ok__law_forms (F : Fx fa fn bs K mg base) : GFn P w K mg base "_law_forms" 1 false FS__law_forms := by
  obtain ⟨fd, D⟩ := F.says.def_ 2 (d := df__law_forms) rfl
  exact ⟨_, fd, _, fn_okD D sc__law_forms (fun _ => rfl) (fun cdv A outer s H E hr tk hp => ⟨_, (dss_cons (ds_set (i := 3) sc__law_forms.nd (de_tup (da_cons (de_mod (db_var 0) (de_add (db_var 2) de_int.b).b) (da_cons (de_mod (de_fdiv (db_var 0) de_int.b).b (de_add (db_var 2) de_int.b).b) (da_cons (de_mod (de_fdiv (db_var 0) de_int.b).b de_int.b) da_nil)))))
  (dss_cons (ds_if (dt_eq (roomU hr) (de_mod (de_fdiv (db_var 0) de_int.b).b de_int.b).b de_int.b) (dss_one (ds_set (i := 4) sc__law_forms.nd (de_tup (da_cons (de_mod (db_var 1) (de_add (de_ix (db_var 3) de_int.b).b de_int.b).b) (da_cons (de_sub (de_mod (de_fdiv (db_var 1) de_int.b).b de_int.b).b de_int.b) (da_cons (de_mod (de_fdiv (db_var 1) de_int.b).b (de_add (de_ix (db_var 3) de_int.b).b de_int.b).b) da_nil)))))) (dss_one (ds_set (i := 4) sc__law_forms.nd (de_tup (da_cons (de_sub (de_mod (db_var 1) (de_add (de_mul de_int.b (db_var 2)).b de_int.b).b).b (db_var 2)) (da_cons (de_sub (de_mod (de_fdiv (db_var 1) de_int.b).b (de_add (de_mul de_int.b (db_var 2)).b de_int.b).b).b (db_var 2)) (da_cons (de_sub (de_mod (de_fdiv (db_var 1) de_int.b).b de_int.b).b de_int.b) da_nil)))))))
  (dss_cons (ds_if (dw_and (dt_eq (roomU hr) (de_ix (db_var 4) de_int.b).b de_int.b) (dw_and1 (dt_lt (de_ix (db_var 4) de_int.b).b de_int.b))).t (dss_one (ds_set (i := 4) sc__law_forms.nd (de_tup (da_cons de_int (da_cons (de_neg (de_ix (db_var 4) de_int.b).b) (da_cons (de_ix (db_var 4) de_int.b) da_nil)))))) dss_nil)
  (dss_cons (ds_if (dw_and (dt_eq (roomU hr) (de_ix (db_var 4) de_int.b).b (de_ix (db_var 3) de_int.b).b) (dw_and1 (dt_gt (de_ix (db_var 4) de_int.b).b (de_ix (db_var 3) de_int.b).b))).t (dss_one (ds_set (i := 4) sc__law_forms.nd (de_tup (da_cons (de_ix (db_var 4) de_int.b) (da_cons (de_ix (db_var 3) de_int.b) (da_cons (de_ix (db_var 4) de_int.b) da_nil)))))) dss_nil)
  (dss_one (ds_ret (de_tup (da_cons de_str (da_cons (de_var 3) (da_cons (de_var 4) da_nil))))))))))⟩) hm__law_forms, F.glo 32, D.kp, D.bindsN fun _ _ _ _ _ _ us hl => match us, hl with | [_, _, _], _ => rfl⟩
theorem ok__law_number (F : Fx fa fn bs K mg base) : GFn P w K mg base "_law_number" 1 false FS__law_number := by
  obtain ⟨fd, D⟩ := F.says.def_ 3 (d := df__law_number) rfl
  exact ⟨_, fd, _, fn_okD D sc__law_number (fun _ => rfl) (fun cdv A outer s H E hr tk hp => ⟨_, (dss_cons (ds_if (dt_eq (roomU hr) (de_mod (db_var 0) de_int.b).b de_int.b) (dss_one (ds_ret (de_add (de_sub (de_mod (de_fdiv (db_var 0) de_int.b).b (de_sub (de_mul de_int.b (db_var 1)).b de_int.b).b).b (db_var 1)).b de_int.b))) dss_nil)
  (dss_cons (ds_if (dt_eq (roomU hr) (de_mod (db_var 0) de_int.b).b de_int.b) (dss_one (ds_ret (de_sub (de_mod (de_fdiv (db_var 0) de_int.b).b de_int.b).b de_int.b))) dss_nil)
  (dss_one (ds_ret (de_sub (de_mod (de_fdiv (db_var 0) de_int.b).b de_int.b).b de_int.b)))))⟩) hm__law_number, F.glo 33, D.kp, D.bindsN fun _ _ _ _ _ _ us hl => match us, hl with | [_, _], _ => rfl⟩
theorem ok__law_divisor (F : Fx fa fn bs K mg base) : GFn P w K mg base "_law_divisor" 1 false FS__law_divisor := by
  obtain ⟨fd, D⟩ := F.says.def_ 4 (d := df__law_divisor) rfl
  exact ⟨_, fd, _, fn_okD D sc__law_divisor (fun _ => rfl) (fun cdv A outer s H E hr tk hp => ⟨_, (dss_cons (ds_set (i := 0) sc__law_divisor.nd (de_abs (F.free 2) (dab_cons (db_var 0) dab_nil)))
  (dss_cons (ds_set (i := 1) sc__law_divisor.nd (de_abs (F.free 2) (dab_cons (db_var 1) dab_nil)))
  (dss_cons (ds_while hp (dt_ne (roomU hr) (db_var 0) de_int.b) (dss_cons (ds_set (i := 2) sc__law_divisor.nd (de_mod (db_var 1) (db_var 0)))
  (dss_cons (ds_set (i := 1) sc__law_divisor.nd (de_var 0))
  (dss_one (ds_set (i := 0) sc__law_divisor.nd (de_var 2))))))
  (dss_one (ds_ret (de_var 1))))))⟩) hm__law_divisor, F.glo 34, D.kp, D.bindsN fun _ _ _ _ _ _ us hl => match us, hl with | [_, _], _ => rfl⟩
theorem ok__law_ratio (F : Fx fa fn bs K mg base) : GFn P w K mg base "_law_ratio" 2 false FS__law_ratio := by
  obtain ⟨fd, D⟩ := F.says.def_ 5 (d := df__law_ratio) rfl
  exact ⟨_, fd, _, fn_okD D sc__law_ratio (fun _ => rfl) (fun cdv A outer s H E hr tk hp => ⟨_, (dss_cons (ds_set (i := 2) sc__law_ratio.nd (de_call (ok__law_number F) (hr.mono (by decide)) tk (da_cons (de_var 0) (da_cons (de_pow de_int.b de_int.b) da_nil))))
  (dss_cons (ds_if (dt_eq (roomU hr) (db_var 2) de_int.b) (dss_one (ds_set (i := 2) sc__law_ratio.nd de_int)) dss_nil)
  (dss_cons (ds_set (i := 3) sc__law_ratio.nd (de_call (ok__law_mixed F) (hr.mono (by decide)) tk (da_cons (de_var 1) (da_cons de_int da_nil))))
  (dss_cons (ds_set (i := 4) sc__law_ratio.nd (de_ix (df_lst (da_cons de_int (da_cons (de_add de_int.b (de_mod (de_fdiv (db_var 3) de_int.b).b de_int.b).b) (da_cons (de_add de_int.b (de_mod (de_fdiv (db_var 3) de_int.b).b (de_pow de_int.b de_int.b).b).b) da_nil)))).b (de_mod (db_var 3) de_int.b).b))
  (dss_cons (ds_set (i := 5) sc__law_ratio.nd (de_call (ok__law_divisor F) (hr.mono (by decide)) tk (da_cons (de_var 2) (da_cons (de_var 4) da_nil))))
  (dss_one (ds_ret (de_tup (da_cons (de_fdiv (db_var 2) (db_var 5)) (da_cons (de_fdiv (db_var 4) (db_var 5)) da_nil))))))))))⟩) hm__law_ratio, F.glo 35, D.kp, D.bindsN fun _ _ _ _ _ _ us hl => match us, hl with | [_, _], _ => rfl⟩
theorem ok__law_part (F : Fx fa fn bs K mg base) : GFn P w K mg base "_law_part" 3 false FS__law_part := by
  obtain ⟨fd, D⟩ := F.says.def_ 6 (d := df__law_part) rfl
  exact ⟨_, fd, _, fn_okD D sc__law_part (fun _ => rfl) (fun cdv A outer s H E hr tk hp => ⟨_, (dss_cons (ds_set (i := 2) sc__law_part.nd (de_mod (de_call (ok__law_mixed F) (hr.mono (by decide)) tk (da_cons (de_ix (db_var 0) de_int.b) (da_cons de_int da_nil))).b de_int.b))
  (dss_cons (ds_if (dw_and (dt_lt (db_var 2) de_int.b) (dw_and1 (dt_gt (db_var 1) de_int.b))).t (dss_one (ds_ret (de_call (ok__law_forms F) (hr.mono (by decide)) tk (da_cons (de_call (ok__law_mixed F) (hr.mono (by decide)) tk (da_cons (de_ix (db_var 0) de_int.b) (da_cons de_int da_nil))) (da_cons (de_call (ok__law_mixed F) (hr.mono (by decide)) tk (da_cons (de_ix (db_var 0) de_int.b) (da_cons de_int da_nil))) (da_cons (de_var 1) da_nil)))))) dss_nil)
  (dss_cons (ds_if (dt_eq (roomU hr) (db_var 2) de_int.b) (dss_one (ds_ret (de_tup (da_cons de_str (da_cons (de_call (ok__law_ratio F) (hr.mono (by decide)) tk (da_cons (de_ix (db_var 0) de_int.b) (da_cons (de_ix (db_var 0) de_int.b) da_nil))) da_nil))))) dss_nil)
  (dss_cons (ds_if (dt_eq (roomU hr) (db_var 2) de_int.b) (dss_one (ds_ret (de_tup (da_cons de_str (da_cons (de_call (ok__law_ratio F) (hr.mono (by decide)) tk (da_cons (de_ix (db_var 0) de_int.b) (da_cons (de_ix (db_var 0) de_int.b) da_nil))) da_nil))))) dss_nil)
  (dss_one (ds_ret (de_tup (da_cons de_str (da_cons (de_tupC (F.free 3) (dab_cons (df_lc1 3 [("_law_cell", 3)] (N := N__law_part) (sc := defScope t__law_part) rfl sc__law_part.nd (di_list (de_var 0)) (by kernel_rfl) (fun _ _ _ _ _ => ⟨_, (de_call (ok__law_number F) (hr.mono (by decide)) takesF (da_cons (de_var 3) (da_cons (de_pow de_int.b de_int.b) da_nil)))⟩)).f.b dab_nil)) da_nil)))))))))⟩) hm__law_part, F.glo 36, D.kp, D.bindsN fun _ _ _ _ _ _ us hl => match us, hl with | [_, _], _ => rfl⟩
theorem ok__law_parts (F : Fx fa fn bs K mg base) : GFn P w K mg base "_law_parts" 4 false FS__law_parts := by
  obtain ⟨fd, D⟩ := F.says.def_ 7 (d := df__law_parts) rfl
  exact ⟨_, fd, _, fn_okD D sc__law_parts (fun _ => rfl) (fun cdv A outer s H E hr tk hp => ⟨_, (dss_cons (ds_own (i := 2) sc__law_parts.nd (df_lst da_nil))
  (dss_cons (ds_for hp rfl (di_range1 (by rfl) (F.free 1) (dab_cons (de_add de_int.b (de_mod (de_call (ok__law_cell_at F) (hr.mono (by decide)) tk (da_cons (de_var 0) (da_cons de_int da_nil))).b de_int.b).b).b dab_nil)) (dg_name (i := 3) sc__law_parts.nd) (dss_cons (ds_set (i := 4) sc__law_parts.nd (de_call (ok__law_part F) (hr.mono (by decide)) tk (da_cons (df_lc1 5 [("_law_j", 5)] (N := N__law_parts) (sc := defScope t__law_parts) rfl sc__law_parts.nd (di_range1 (by rfl) (F.free 1) (dab_cons de_int.b dab_nil)) (by kernel_rfl) (fun _ _ _ _ _ => ⟨_, (de_call (ok__law_cell_at F) (hr.mono (by decide)) takesF (da_cons (de_var 0) (da_cons (de_add (de_add de_int.b (de_mul de_int.b (db_var 3)).b).b (db_var 5)) da_nil)))⟩)).f.e (da_cons (de_ix (db_var 1) de_int.b) da_nil))))
  (dss_cons (ds_if (dt_eq (roomU hr) (de_ix (db_var 4) de_int.b).b de_str.b) (dss_one (ds_set (i := 1) sc__law_parts.nd (de_add (de_sl (db_var 1) (do_some de_int.b) do_none).b (df_lst (da_cons de_int da_nil)).b))) dss_nil)
  (dss_one (ds_app (i := 2) (de_var 4))))))
  (dss_one (ds_ret (de_var 2)))))⟩) hm__law_parts, F.glo 37, D.kp, D.bindsN fun _ _ _ _ _ _ us hl => match us, hl with | [_, _], _ => rfl⟩
theorem ok_within (F : Fx fa fn bs K mg base) : GFn P w K mg base "within" 1 false FS_within := by
  obtain ⟨fd, D⟩ := F.says.def_ 8 (d := df_within) rfl
  exact ⟨_, fd, _, fn_okD D sc_within (fun _ => rfl) (fun cdv A outer s H E hr tk hp => ⟨_, (dss_cons (ds_if (dw_or (dt_lt (de_minS (by rfl) (F.free 7) (dab_cons (de_sl (db_var 0) do_none (do_some de_int.b)).b dab_nil)).b (db_var 1)) (dw_or1 (dt_gt (de_maxS (by rfl) (F.free 8) (dab_cons (de_sl (db_var 0) do_none (do_some de_int.b)).b dab_nil)).b (db_var 2)))).t (dss_one (ds_ret de_bl)) dss_nil)
  (dss_one (ds_ret (de_and (de_le (de_abs (F.free 2) (dab_cons (de_ix (db_var 0) de_int.b).b dab_nil)).b (db_var 3)).b (de_one (de_or (de_lt (db_var 1) de_int.b).b (de_one (de_ge (de_ix (db_var 0) de_int.b).b de_int.b))))))))⟩) hm_within, F.glo 38, D.kp, D.bindsN fun _ _ _ _ _ _ us hl => match us, hl with | [_, _, _, _], _ => rfl⟩
theorem ok_is_choose (F : Fx fa fn bs K mg base) : GFn P w K mg base "is_choose" 2 false FS_is_choose := by
  obtain ⟨fd, D⟩ := F.says.def_ 9 (d := df_is_choose) rfl
  exact ⟨_, fd, _, fn_okD D sc_is_choose (fun _ => rfl) (fun cdv A outer s H E hr tk hp => ⟨_, (dss_cons (ds_if (dw_or (dt_not (dt_tru (de_call (ok_within F) (hr.mono (by decide)) tk (da_cons (de_var 0) (da_cons de_int (da_cons de_int (da_cons de_int da_nil))))).b)) (dw_or1 (dt_not (dt_tru (de_call (ok_within F) (hr.mono (by decide)) tk (da_cons (de_var 1) (da_cons (de_neg de_int.b) (da_cons de_int (da_cons de_int da_nil))))).b)))).t (dss_one (ds_ret de_bl)) dss_nil)
  (dss_cons (ds_for hp rfl (di_list (df_lst (da_cons (de_var 1) (da_cons (de_tup (da_cons (de_sub (de_ix (db_var 0) de_int.b).b (de_ix (db_var 1) de_int.b).b) (da_cons (de_sub (de_ix (db_var 0) de_int.b).b (de_ix (db_var 1) de_int.b).b) (da_cons (de_sub (de_ix (db_var 0) de_int.b).b (de_ix (db_var 1) de_int.b).b) da_nil)))) da_nil))).e) (dg_name (i := 2) sc_is_choose.nd) (dss_one (ds_if (dw_and (dt_eq (roomU hr) (de_ix (db_var 2) de_int.b).b de_int.b) (dw_and1 (dt_lt (de_ix (db_var 2) de_int.b).b de_int.b))).t (dss_one (ds_ret de_bl)) dss_nil)))
  (dss_one (ds_ret de_bl))))⟩) hm_is_choose, F.glo 39, D.kp, D.bindsN fun _ _ _ _ _ _ us hl => match us, hl with | [_, _], _ => rfl⟩
theorem mk_Choose (F : Fx fa fn bs K mg base) : GMk P w K mg base "Choose" 1 FS_Choose___init__ := by
  obtain ⟨fd, D⟩ := F.says.def_ 10 (d := df_Choose___init__) rfl
  exact ⟨_, fd, _, He.mkr_ok (F.f 40), init_okD D sc_Choose___init__ (fun _ => rfl) (fun cdv A outer s H E hr tk hp => ⟨_, (dss_cons (ds_fldSet 0 (de_var 1) (fldF_cons (F.f 9) (F.f 10) fldF_nil))
  (dss_one (ds_fldSet 0 (df_lst (da_cons (de_var 2) (da_cons (de_tup (da_cons (de_sub (de_ix (db_var 1) de_int.b).b (de_ix (db_var 2) de_int.b).b) (da_cons (de_sub (de_ix (db_var 1) de_int.b).b (de_ix (db_var 2) de_int.b).b) (da_cons (de_sub (de_ix (db_var 1) de_int.b).b (de_ix (db_var 2) de_int.b).b) da_nil)))) da_nil))).e (fldF_cons (F.f 9) (F.f 11) fldF_nil))))⟩) hm_Choose___init__, F.glo 41, D.bindsN fun _ _ _ _ _ _ us hl => match us, hl with | [_, _, _], _ => rfl⟩
theorem mk_Weight (F : Fx fa fn bs K mg base) : GMk P w K mg base "Weight" 1 FS_Weight___init__ := by
  obtain ⟨fd, D⟩ := F.says.def_ 11 (d := df_Weight___init__) rfl
  exact ⟨_, fd, _, He.mkr_ok (F.f 42), init_okD D sc_Weight___init__ (fun _ => rfl) (fun cdv A outer s H E hr tk hp => ⟨_, (dss_one (ds_fldSet 0 (de_var 1) (fldF_cons (F.f 12) (F.f 13) fldF_nil)))⟩) hm_Weight___init__, F.glo 43, D.bindsN fun _ _ _ _ _ _ us hl => match us, hl with | [_, _], _ => rfl⟩
theorem mk_Power (F : Fx fa fn bs K mg base) : GMk P w K mg base "Power" 1 FS_Power___init__ := by
  obtain ⟨fd, D⟩ := F.says.def_ 12 (d := df_Power___init__) rfl
  exact ⟨_, fd, _, He.mkr_ok (F.f 44), init_okD D sc_Power___init__ (fun _ => rfl) (fun cdv A outer s H E hr tk hp => ⟨_, (dss_one (ds_fldSet 0 (de_var 1) (fldF_cons (F.f 14) (F.f 15) fldF_nil)))⟩) hm_Power___init__, F.glo 45, D.bindsN fun _ _ _ _ _ _ us hl => match us, hl with | [_, _], _ => rfl⟩
theorem mk_Growth (F : Fx fa fn bs K mg base) : GMk P w K mg base "Growth" 1 FS_Growth___init__ := by
  obtain ⟨fd, D⟩ := F.says.def_ 13 (d := df_Growth___init__) rfl
  exact ⟨_, fd, _, He.mkr_ok (F.f 46), init_okD D sc_Growth___init__ (fun _ => rfl) (fun cdv A outer s H E hr tk hp => ⟨_, (dss_one (ds_fldSet 0 (de_var 1) (fldF_cons (F.f 16) (F.f 17) fldF_nil)))⟩) hm_Growth___init__, F.glo 47, D.bindsN fun _ _ _ _ _ _ us hl => match us, hl with | [_, _], _ => rfl⟩
theorem ok_made_part (F : Fx fa fn bs K mg base) : GFn P w K mg base "made_part" 3 false FS_made_part := by
  obtain ⟨fd, D⟩ := F.says.def_ 14 (d := df_made_part) rfl
  exact ⟨_, fd, _, fn_okD D sc_made_part (fun _ => rfl) (fun cdv A outer s H E hr tk hp => ⟨_, (dss_cons (ds_set (i := 1) sc_made_part.nd (de_ix (db_var 0) de_int.b))
  (dss_cons (ds_if (dw_and (dt_eq (roomU hr) (db_var 1) de_str.b) (dw_and1 (dt_tru (de_call (ok_is_choose F) (hr.mono (by decide)) tk (da_cons (de_ix (db_var 0) de_int.b) (da_cons (de_ix (db_var 0) de_int.b) da_nil))).b))).t (dss_one (ds_ret (df_make (mk_Choose F) (hr.mono (by decide)) tk (da_cons (de_ix (db_var 0) de_int.b) (da_cons (de_ix (db_var 0) de_int.b) da_nil))).e)) dss_nil)
  (dss_cons (ds_if (dt_eq (roomU hr) (db_var 1) de_str.b) (dss_one (ds_ret (df_make (mk_Weight F) (hr.mono (by decide)) tk (da_cons (de_ix (db_var 0) de_int.b) da_nil)).e)) dss_nil)
  (dss_cons (ds_if (dw_and (dt_eq (roomU hr) (db_var 1) de_str.b) (dw_and1 (dt_ne (roomU hr) (de_ix (de_ix (db_var 0) de_int.b).b de_int.b).b de_int.b))).t (dss_one (ds_ret (df_make (mk_Power F) (hr.mono (by decide)) tk (da_cons (de_ix (db_var 0) de_int.b) da_nil)).e)) dss_nil)
  (dss_cons (ds_if (dw_and (dt_eq (roomU hr) (db_var 1) de_str.b) (dw_and1 (dt_ne (roomU hr) (de_ix (de_ix (db_var 0) de_int.b).b de_int.b).b de_int.b))).t (dss_one (ds_ret (df_make (mk_Growth F) (hr.mono (by decide)) tk (da_cons (de_ix (db_var 0) de_int.b) da_nil)).e)) dss_nil)
  (dss_one (ds_raise (by rfl) tk (F.f 5) (F.glo 6))))))))⟩) hm_made_part, F.glo 48, D.kp, D.bindsN fun _ _ _ _ _ _ us hl => match us, hl with | [_], _ => rfl⟩
theorem mk_Term (F : Fx fa fn bs K mg base) : GMk P w K mg base "Term" 4 FS_Term___init__ := by
  obtain ⟨fd, D⟩ := F.says.def_ 15 (d := df_Term___init__) rfl
  exact ⟨_, fd, _, He.mkr_ok (F.f 49), init_okD D sc_Term___init__ (fun _ => rfl) (fun cdv A outer s H E hr tk hp => ⟨_, (dss_cons (ds_if (dw_or (dt_eq (roomU hr) (db_var 1) (df_lst da_nil).b) (dw_or1 (dt_gt (de_len (F.free 0) (dab_cons (db_var 1) dab_nil)).b (de_gI (F.int 4)).b))).t (dss_one (ds_raise (by rfl) tk (F.f 5) (F.glo 6))) dss_nil)
  (dss_cons (ds_fldSet 0 (df_lc1 2 [("part", 2)] (N := N_Term___init__) (sc := defScope t_Term___init__) rfl sc_Term___init__.nd (di_list (de_var 1)) (by kernel_rfl) (fun _ _ _ _ _ => ⟨_, (de_call (ok_made_part F) (hr.mono (by decide)) takesF (da_cons (de_var 2) da_nil))⟩)).f.e (fldF_cons (F.f 18) (F.f 19) fldF_nil))
  (dss_one (ds_fldSet 0 (df_listC (F.free 20) (dab_cons (db_var 1) dab_nil)).e (fldF_cons (F.f 18) (F.f 21) fldF_nil)))))⟩) hm_Term___init__, F.glo 28, D.bindsN fun _ _ _ _ _ _ us hl => match us, hl with | [_, _], _ => rfl⟩
theorem ok__law_form_text (F : Fx fa fn bs K mg base) : GFn P w K mg base "_law_form_text" 1 false FS__law_form_text := by
  obtain ⟨fd, D⟩ := F.says.def_ 16 (d := df__law_form_text) rfl
  exact ⟨_, fd, _, fn_okD D sc__law_form_text (fun _ => rfl) (fun cdv A outer s H E hr tk hp => ⟨_, (dss_cons (ds_own (i := 1) sc__law_form_text.nd (df_lst da_nil))
  (dss_cons (ds_for hp rfl (di_range1 (by rfl) (F.free 1) (dab_cons de_int.b dab_nil)) (dg_name (i := 2) sc__law_form_text.nd) (dss_cons (ds_set (i := 3) sc__law_form_text.nd (de_strC (F.free 22) (dab_cons (de_ix (db_var 0) (db_var 2)).b dab_nil)))
  (dss_cons (ds_if (dw_and (dt_lt (db_var 2) de_int.b) (dw_and (dt_eq (roomU hr) (de_sl (db_var 3) (do_some (de_neg de_int.b).b) do_none).b de_str.b) (dw_and1 (dt_eq (roomU hr) (de_abs (F.free 2) (dab_cons (de_ix (db_var 0) (db_var 2)).b dab_nil)).b de_int.b)))).t (dss_one (ds_set (i := 3) sc__law_form_text.nd (de_sl (db_var 3) do_none (do_some (de_neg de_int.b).b)))) dss_nil)
  (dss_cons (ds_if (dw_and (dt_gt (de_ix (db_var 0) (db_var 2)).b de_int.b) (dw_and1 (dt_gt (de_len (F.free 0) (dab_cons (db_var 1) dab_nil)).b de_int.b))).t (dss_one (ds_set (i := 3) sc__law_form_text.nd (de_add de_str.b (db_var 3)))) dss_nil)
  (dss_one (ds_if (dt_ne (roomU hr) (de_ix (db_var 0) (db_var 2)).b de_int.b) (dss_one (ds_app (i := 1) (de_add (db_var 3) (de_ix (df_lst (da_cons de_str (da_cons de_str (da_cons de_str da_nil)))).b (db_var 2)).b))) dss_nil))))))
  (dss_cons (ds_if (dt_eq (roomU hr) (db_var 1) (df_lst da_nil).b) (dss_one (ds_ret de_str)) dss_nil)
  (dss_one (ds_ret (de_join de_str.b (dab_cons (db_var 1) dab_nil)))))))⟩) hm__law_form_text, F.glo 50, D.kp, D.bindsN fun _ _ _ _ _ _ us hl => match us, hl with | [_], _ => rfl⟩
theorem ok__law_ratio_text (F : Fx fa fn bs K mg base) : GFn P w K mg base "_law_ratio_text" 1 false FS__law_ratio_text := by
  obtain ⟨fd, D⟩ := F.says.def_ 17 (d := df__law_ratio_text) rfl
  exact ⟨_, fd, _, fn_okD D sc__law_ratio_text (fun _ => rfl) (fun cdv A outer s H E hr tk hp => ⟨_, (dss_one (ds_ret (de_join de_str.b (dab_cons (de_sl (df_lc1 1 [("_law_number_here", 1)] (N := N__law_ratio_text) (sc := defScope t__law_ratio_text) rfl sc__law_ratio_text.nd (di_tup (de_var 0)) (by kernel_rfl) (fun _ _ _ _ _ => ⟨_, (de_strC (F.free 22) (dab_cons (db_var 1) dab_nil))⟩)).f.b do_none (do_some (de_add de_int.b (de_intC (F.free 23) (dab_cons (de_gt (de_ix (db_var 0) de_int.b).b de_int.b).b dab_nil)).b).b)).b dab_nil))))⟩) hm__law_ratio_text, F.glo 51, D.kp, D.bindsN fun _ _ _ _ _ _ us hl => match us, hl with | [_], _ => rfl⟩
theorem ok__law_part_text (F : Fx fa fn bs K mg base) : GFn P w K mg base "_law_part_text" 2 false FS__law_part_text := by
  obtain ⟨fd, D⟩ := F.says.def_ 18 (d := df__law_part_text) rfl
  exact ⟨_, fd, _, fn_okD D sc__law_part_text (fun _ => rfl) (fun cdv A outer s H E hr tk hp => ⟨_, (dss_cons (ds_if (dt_eq (roomU hr) (de_ix (db_var 0) de_int.b).b de_str.b) (dss_one (ds_ret (de_add (de_add de_str.b (de_join de_str.b (dab_cons (df_lst (da_cons (de_call (ok__law_form_text F) (hr.mono (by decide)) tk (da_cons (de_ix (db_var 0) de_int.b) da_nil)) (da_cons (de_call (ok__law_form_text F) (hr.mono (by decide)) tk (da_cons (de_ix (db_var 0) de_int.b) da_nil)) da_nil))).b dab_nil)).b).b de_str.b))) dss_nil)
  (dss_cons (ds_if (dt_eq (roomU hr) (de_ix (db_var 0) de_int.b).b de_str.b) (dss_one (ds_ret (de_add (de_add de_str.b (de_call (ok__law_form_text F) (hr.mono (by decide)) tk (da_cons (de_ix (db_var 0) de_int.b) da_nil)).b).b de_str.b))) dss_nil)
  (dss_one (ds_ret (de_add (de_add de_str.b (de_call (ok__law_ratio_text F) (hr.mono (by decide)) tk (da_cons (de_ix (db_var 0) de_int.b) da_nil)).b).b (de_ix (df_lst (da_cons de_str (da_cons de_str da_nil))).b (de_intC (F.free 23) (dab_cons (de_eq (roomU hr) (de_ix (db_var 0) de_int.b).b de_str.b).b dab_nil)).b).b)))))⟩) hm__law_part_text, F.glo 52, D.kp, D.bindsN fun _ _ _ _ _ _ us hl => match us, hl with | [_], _ => rfl⟩
theorem ok_Term_told (F : Fx fa fn bs K mg base) : GMt P w K mg base "Term" "told" 1 true FS_Term_told := by
  obtain ⟨fd, D⟩ := F.says.def_ 19 (d := df_Term_told) rfl
  exact ⟨_, fd, _, He.cls_ok (F.f 18), He.meth_ok (F.f 53), fn_okD D sc_Term_told (fun _ => rfl) (fun cdv A outer s H E hr tk hp => ⟨_, (dss_one (ds_retF (df_listC (F.free 20) (dab_cons (de_fld (db_var 0) (fldF_cons (F.f 18) (F.f 21) fldF_nil)).b dab_nil))))⟩) hm_Term_told, D.bindsN fun _ _ _ _ _ _ us hl => match us, hl with | [_], _ => rfl⟩
theorem ok_show_form (F : Fx fa fn bs K mg base) : GFn P w K mg base "show_form" 2 false FS_show_form := by
  obtain ⟨fd, D⟩ := F.says.def_ 21 (d := df_show_form) rfl
  obtain ⟨fdp, Dp⟩ := F.says.def_ 20 (d := df_show_piece) rfl
  have R : PieceRun P w K mg base (L2.CX P w) 1 _ := piece_run rfl Dp sc_show_piece (Dp.bindsN fun _ _ _ _ _ _ us hl => match us, hl with | [_, _], _ => rfl) rfl rfl rfl rfl (F.free 2) (F.free 22) rfl
  refine ⟨_, fd, _, D.ok sc_show_form (fun vs H Q E h => ?_) (fun cdv A outer s H vs Q E hr h => ?_), F.glo 55, D.kp, D.bindsN fun _ _ _ _ _ _ us hl => match us, hl with | [_], _ => rfl⟩
  · obtain ⟨a, B, al, r, _⟩ := h
    rw [← r.length]
    rfl
  · obtain ⟨f, B, al, r, hp, hq⟩ := h
    have hq : ∀ v H', Go H H' → Post K false B H H' (.str (S (formL f))) v → Q v H' := hq
    refine ⟨tForm K, form_pss (k := 1) (E := fun _ _ _ => False) rfl rfl rfl rfl rfl rfl rfl (F.free 24) rfl (F.glo 54) Dp.kp R hr pass_none (passes_of rfl) rfl, ?_⟩
    have r : Reps K (hide B H) [fD f] vs := r
    unfold Reps at r
    obtain ⟨v, r', rfl, rv, rr⟩ := r
    unfold Reps at rr
    subst rr
    unfold fD Rep at rv
    obtain ⟨a, xs, rfl, sq, rx⟩ := rv
    obtain ⟨x1, l1, rfl, e1, rx⟩ := rx
    obtain ⟨x2, l2, rfl, e2, rx⟩ := rx
    obtain ⟨x3, l3, rfl, e3, rx⟩ := rx
    unfold Reps at rx
    subst rx
    unfold Rep at e1 e2 e3
    subst e1 e2 e3
    refine ⟨a, f, rfl, sqt_go sq go_hide, hp, fun H' g => hq _ H' g ?_⟩
    show Rep K (hide B H') (.str (S (formL f))) (.str (S (formL f)))
    unfold Rep
    rfl

theorem ok_show_ratio (F : Fx fa fn bs K mg base) : GFn P w K mg base "show_ratio" 1 false FS_show_ratio := by
  obtain ⟨fd, D⟩ := F.says.def_ 22 (d := df_show_ratio) rfl
  exact ⟨_, fd, _, fn_okD D sc_show_ratio (fun _ => rfl) (fun cdv A outer s H E hr tk hp => ⟨_, (dss_cons (ds_if (dt_eq (roomU hr) (de_ix (db_var 0) de_int.b).b de_int.b) (dss_one (ds_ret (de_strC (F.free 22) (dab_cons (de_ix (db_var 0) de_int.b).b dab_nil)))) dss_nil)
  (dss_one (ds_ret (de_add (de_add (de_strC (F.free 22) (dab_cons (de_ix (db_var 0) de_int.b).b dab_nil)).b de_str.b).b (de_strC (F.free 22) (dab_cons (de_ix (db_var 0) de_int.b).b dab_nil)).b))))⟩) hm_show_ratio, F.glo 56, D.kp, D.bindsN fun _ _ _ _ _ _ us hl => match us, hl with | [_], _ => rfl⟩
theorem ok_show_part (F : Fx fa fn bs K mg base) : GFn P w K mg base "show_part" 3 false FS_show_part := by
  obtain ⟨fd, D⟩ := F.says.def_ 23 (d := df_show_part) rfl
  exact ⟨_, fd, _, fn_okD D sc_show_part (fun _ => rfl) (fun cdv A outer s H E hr tk hp => ⟨_, (dss_cons (ds_if (dt_eq (roomU hr) (de_ix (db_var 0) de_int.b).b de_str.b) (dss_one (ds_ret (de_add (de_add (de_add (de_add de_str.b (de_call (ok_show_form F) (hr.mono (by decide)) tk (da_cons (de_ix (db_var 0) de_int.b) da_nil)).b).b de_str.b).b (de_call (ok_show_form F) (hr.mono (by decide)) tk (da_cons (de_ix (db_var 0) de_int.b) da_nil)).b).b de_str.b))) dss_nil)
  (dss_cons (ds_if (dt_eq (roomU hr) (de_ix (db_var 0) de_int.b).b de_str.b) (dss_one (ds_ret (de_add (de_add de_str.b (de_call (ok_show_form F) (hr.mono (by decide)) tk (da_cons (de_ix (db_var 0) de_int.b) da_nil)).b).b de_str.b))) dss_nil)
  (dss_cons (ds_if (dt_eq (roomU hr) (de_ix (db_var 0) de_int.b).b de_str.b) (dss_one (ds_ret (de_add (de_add de_str.b (de_call (ok_show_ratio F) (hr.mono (by decide)) tk (da_cons (de_ix (db_var 0) de_int.b) da_nil)).b).b de_str.b))) dss_nil)
  (dss_one (ds_ret (de_add (de_add de_str.b (de_call (ok_show_ratio F) (hr.mono (by decide)) tk (da_cons (de_ix (db_var 0) de_int.b) da_nil)).b).b de_str.b))))))⟩) hm_show_part, F.glo 57, D.kp, D.bindsN fun _ _ _ _ _ _ us hl => match us, hl with | [_], _ => rfl⟩
theorem ok_show_term (F : Fx fa fn bs K mg base) : GFn P w K mg base "show_term" 4 false FS_show_term := by
  obtain ⟨fd, D⟩ := F.says.def_ 24 (d := df_show_term) rfl
  exact ⟨_, fd, _, fn_okD D sc_show_term (fun _ => rfl) (fun cdv A outer s H E hr tk hp => ⟨_, (dss_one (ds_ret (de_join de_str.b (dab_cons (df_lc1 1 [("part", 1)] (N := N_show_term) (sc := defScope t_show_term) rfl sc_show_term.nd (di_list (df_meth0 (ok_Term_told F) (hr.mono (by decide)) tk (de_var 0)).e) (by kernel_rfl) (fun _ _ _ _ _ => ⟨_, (de_call (ok_show_part F) (hr.mono (by decide)) takesF (da_cons (de_var 1) da_nil))⟩)).f.b dab_nil))))⟩) hm_show_term, F.glo 58, D.kp, D.bindsN fun _ _ _ _ _ _ us hl => match us, hl with | [_], _ => rfl⟩
theorem ok_pieces_of (F : Fx fa fn bs K mg base) : GFn P w K mg base "pieces_of" 1 false FS_pieces_of := by
  obtain ⟨fd, D⟩ := F.says.def_ 25 (d := df_pieces_of) rfl
  exact ⟨_, fd, _, fn_okD D sc_pieces_of (fun _ => rfl) (fun cdv A outer s H E hr tk hp => ⟨_, (dss_cons (ds_own (i := 1) sc_pieces_of.nd (df_lst da_nil))
  (dss_cons (ds_for hp rfl (di_str (de_var 0)) (dg_name (i := 2) sc_pieces_of.nd) (dss_cons (ds_if (dw_or (dt_inS (db_var 2) de_str.b rfl) (dw_or1 (dt_eq (roomU hr) (db_var 1) (df_lst da_nil).b))).t (dss_one (ds_app (i := 1) de_str)) dss_nil)
  (dss_one (ds_setIx (i := 1) (de_add (de_ix (db_var 1) (de_neg de_int.b).b).b (db_var 2)) (de_neg de_int.b).b))))
  (dss_one (ds_ret (de_var 1)))))⟩) hm_pieces_of, F.glo 59, D.kp, D.bindsN fun _ _ _ _ _ _ us hl => match us, hl with | [_], _ => rfl⟩
theorem ok_number_of (F : Fx fa fn bs K mg base) : GFn P w K mg base "number_of" 1 false FS_number_of := by
  obtain ⟨fd, D⟩ := F.says.def_ 26 (d := df_number_of) rfl
  exact ⟨_, fd, _, fn_okD D sc_number_of (fun _ => rfl) (fun cdv A outer s H E hr tk hp => ⟨_, (dss_cons (ds_set (i := 1) sc_number_of.nd (de_if (dt_eq (roomU hr) (de_sl (db_var 0) do_none (do_some de_int.b)).b de_str.b) (de_sl (db_var 0) (do_some de_int.b) do_none) (de_var 0)))
  (dss_cons (ds_if (dw_or (dt_eq (roomU hr) (db_var 1) de_str.b) (dw_or1 (dt_gt (de_len (F.free 0) (dab_cons (db_var 1) dab_nil)).b (de_gI (F.int 26)).b))).t (dss_one (ds_ret de_non)) dss_nil)
  (dss_cons (ds_for hp rfl (di_str (de_var 1)) (dg_name (i := 2) sc_number_of.nd) (dss_one (ds_if (dt_notInS (db_var 2) (de_gS (F.str 27)).b rfl) (dss_one (ds_ret de_non)) dss_nil)))
  (dss_cons (ds_if (dw_and (dt_eq (roomU hr) (de_ix (db_var 1) de_int.b).b de_str.b) (dw_and1 (dt_ne (roomU hr) (db_var 0) de_str.b))).t (dss_one (ds_ret de_non)) dss_nil)
  (dss_one (ds_ret (de_intC (F.free 23) (dab_cons (db_var 0) dab_nil))))))))⟩) hm_number_of, F.glo 60, D.kp, D.bindsN fun _ _ _ _ _ _ us hl => match us, hl with | [_], _ => rfl⟩
theorem ok_form_of (F : Fx fa fn bs K mg base) : GFn P w K mg base "form_of" 3 false FS_form_of := by
  obtain ⟨fd, D⟩ := F.says.def_ 27 (d := df_form_of) rfl
  exact ⟨_, fd, _, fn_okD D sc_form_of (fun _ => rfl) (fun cdv A outer s H E hr tk hp => ⟨_, (dss_cons (ds_own (i := 1) sc_form_of.nd (df_lst (da_cons de_int (da_cons de_int (da_cons de_int da_nil)))))
  (dss_cons (ds_for hp rfl (di_list (de_call (ok_pieces_of F) (hr.mono (by decide)) tk (da_cons (de_var 0) da_nil))) (dg_name (i := 2) sc_form_of.nd) (dss_cons (ds_set (i := 3) sc_form_of.nd (de_if (dt_eq (roomU hr) (de_ix (db_var 2) de_int.b).b de_str.b) (de_sl (db_var 2) (do_some de_int.b) do_none) (de_var 2)))
  (dss_cons (ds_set (i := 4) sc_form_of.nd de_int)
  (dss_cons (ds_if (dw_or (dt_tru (de_endswith (db_var 3) (dab_cons de_str.b dab_nil)).b) (dw_or1 (dt_tru (de_endswith (db_var 3) (dab_cons de_str.b dab_nil)).b))).t (dss_cons (ds_set (i := 4) sc_form_of.nd (de_find de_str.b (dab_cons (de_ix (db_var 3) (de_neg de_int.b).b).b dab_nil)))
  (dss_cons (ds_set (i := 3) sc_form_of.nd (de_sl (db_var 3) do_none (do_some (de_neg de_int.b).b)))
  (dss_one (ds_if (dw_or (dt_eq (roomU hr) (db_var 3) de_str.b) (dw_or1 (dt_eq (roomU hr) (db_var 3) de_str.b))).t (dss_one (ds_augAdd (i := 3) sc_form_of.nd de_str.b)) dss_nil)))) dss_nil)
  (dss_cons (ds_set (i := 5) sc_form_of.nd (de_call (ok_number_of F) (hr.mono (by decide)) tk (da_cons (de_var 3) da_nil)))
  (dss_cons (ds_if (dt_is (db_var 5) de_non.b) (dss_one (ds_ret de_non)) dss_nil)
  (dss_one (ds_setIx (i := 1) (de_add (de_ix (db_var 1) (db_var 4)).b (db_var 5)) (db_var 4)))))))))
  (dss_cons (ds_set (i := 6) sc_form_of.nd (de_tupC (F.free 3) (dab_cons (db_var 1) dab_nil)))
  (dss_one (ds_ret (de_if (dt_eq (roomU hr) (de_call (ok_show_form F) (hr.mono (by decide)) tk (da_cons (de_var 6) da_nil)).b (db_var 0)) (de_var 6) de_non))))))⟩) hm_form_of, F.glo 61, D.kp, D.bindsN fun _ _ _ _ _ _ us hl => match us, hl with | [_], _ => rfl⟩
theorem ok_choose_of (F : Fx fa fn bs K mg base) : GFn P w K mg base "choose_of" 4 false FS_choose_of := by
  obtain ⟨fd, D⟩ := F.says.def_ 28 (d := df_choose_of) rfl
  exact ⟨_, fd, _, fn_okD D sc_choose_of (fun _ => rfl) (fun cdv A outer s H E hr tk hp => ⟨_, (dss_cons (ds_asg (de_partition (db_var 0) (dab_cons de_str.b dab_nil)) (dg_tup (by rfl) (dgs_cons (dg_name (i := 1) sc_choose_of.nd) (dgs_cons (dg_name (i := 2) sc_choose_of.nd) (dgs_cons (dg_name (i := 3) sc_choose_of.nd) dgs_nil)))))
  (dss_cons (ds_set (i := 4) sc_choose_of.nd (de_call (ok_form_of F) (hr.mono (by decide)) tk (da_cons (de_var 1) da_nil)))
  (dss_cons (ds_set (i := 5) sc_choose_of.nd (de_call (ok_form_of F) (hr.mono (by decide)) tk (da_cons (de_var 3) da_nil)))
  (dss_cons (ds_if (dw_or (dt_is (db_var 4) de_non.b) (dw_or1 (dt_is (db_var 5) de_non.b))).t (dss_one (ds_ret de_non)) dss_nil)
  (dss_one (ds_ret (de_tup (da_cons de_str (da_cons (de_var 4) (da_cons (de_var 5) da_nil))))))))))⟩) hm_choose_of, F.glo 62, D.kp, D.bindsN fun _ _ _ _ _ _ us hl => match us, hl with | [_], _ => rfl⟩
theorem ok_divisor (F : Fx fa fn bs K mg base) : GFn P w K mg base "divisor" 1 false FS_divisor := by
  obtain ⟨fd, D⟩ := F.says.def_ 29 (d := df_divisor) rfl
  exact ⟨_, fd, _, fn_okD D sc_divisor (fun _ => rfl) (fun cdv A outer s H E hr tk hp => ⟨_, (dss_cons (ds_set (i := 0) sc_divisor.nd (de_abs (F.free 2) (dab_cons (db_var 0) dab_nil)))
  (dss_cons (ds_set (i := 1) sc_divisor.nd (de_abs (F.free 2) (dab_cons (db_var 1) dab_nil)))
  (dss_cons (ds_while hp (dt_gt (db_var 1) de_int.b) (dss_cons (ds_set (i := 2) sc_divisor.nd (de_mod (db_var 0) (db_var 1)))
  (dss_cons (ds_set (i := 0) sc_divisor.nd (de_var 1))
  (dss_one (ds_set (i := 1) sc_divisor.nd (de_var 2))))))
  (dss_one (ds_ret (de_var 0))))))⟩) hm_divisor, F.glo 63, D.kp, D.bindsN fun _ _ _ _ _ _ us hl => match us, hl with | [_, _], _ => rfl⟩
theorem ok_ratio_of (F : Fx fa fn bs K mg base) : GFn P w K mg base "ratio_of" 2 false FS_ratio_of := by
  obtain ⟨fd, D⟩ := F.says.def_ 30 (d := df_ratio_of) rfl
  exact ⟨_, fd, _, fn_okD D sc_ratio_of (fun _ => rfl) (fun cdv A outer s H E hr tk hp => ⟨_, (dss_cons (ds_asg (de_partition (db_var 0) (dab_cons de_str.b dab_nil)) (dg_tup (by rfl) (dgs_cons (dg_name (i := 1) sc_ratio_of.nd) (dgs_cons (dg_name (i := 2) sc_ratio_of.nd) (dgs_cons (dg_name (i := 3) sc_ratio_of.nd) dgs_nil)))))
  (dss_cons (ds_set (i := 4) sc_ratio_of.nd (de_call (ok_number_of F) (hr.mono (by decide)) tk (da_cons (de_var 1) da_nil)))
  (dss_cons (ds_if (dw_or (dt_eq (roomU hr) (db_var 2) de_str.b) (dw_or1 (dt_is (db_var 4) de_non.b))).t (dss_one (ds_ret (de_if (dt_is (db_var 4) de_non.b) de_non (de_tup (da_cons (de_var 4) (da_cons de_int da_nil)))))) dss_nil)
  (dss_cons (ds_set (i := 5) sc_ratio_of.nd (de_call (ok_number_of F) (hr.mono (by decide)) tk (da_cons (de_var 3) da_nil)))
  (dss_cons (ds_if (dw_or (dt_is (db_var 5) de_non.b) (dw_or (dt_lt (db_var 5) de_int.b) (dw_or1 (dt_ne (roomU hr) (de_call (ok_divisor F) (hr.mono (by decide)) tk (da_cons (de_var 4) (da_cons (de_var 5) da_nil))).b de_int.b)))).t (dss_one (ds_ret de_non)) dss_nil)
  (dss_one (ds_ret (de_tup (da_cons (de_var 4) (da_cons (de_var 5) da_nil))))))))))⟩) hm_ratio_of, F.glo 64, D.kp, D.bindsN fun _ _ _ _ _ _ us hl => match us, hl with | [_], _ => rfl⟩
theorem ok_part_of (F : Fx fa fn bs K mg base) : GFn P w K mg base "part_of" 5 false FS_part_of := by
  obtain ⟨fd, D⟩ := F.says.def_ 31 (d := df_part_of) rfl
  exact ⟨_, fd, _, fn_okD D sc_part_of (fun _ => rfl) (fun cdv A outer s H E hr tk hp => ⟨_, (dss_cons (ds_if (dw_and (dt_tru (de_startswith (db_var 0) (dab_cons de_str.b dab_nil)).b) (dw_and1 (dt_tru (de_endswith (db_var 0) (dab_cons de_str.b dab_nil)).b))).t (dss_one (ds_ret (de_call (ok_choose_of F) (hr.mono (by decide)) tk (da_cons (de_sl (db_var 0) (do_some de_int.b) (do_some (de_neg de_int.b).b)) da_nil)))) dss_nil)
  (dss_cons (ds_if (dw_and (dt_tru (de_startswith (db_var 0) (dab_cons de_str.b dab_nil)).b) (dw_and1 (dt_tru (de_endswith (db_var 0) (dab_cons de_str.b dab_nil)).b))).t (dss_cons (ds_set (i := 1) sc_part_of.nd (de_call (ok_form_of F) (hr.mono (by decide)) tk (da_cons (de_sl (db_var 0) (do_some de_int.b) (do_some (de_neg de_int.b).b)) da_nil)))
  (dss_one (ds_ret (de_if (dt_is (db_var 1) de_non.b) de_non (de_tup (da_cons de_str (da_cons (de_var 1) da_nil))))))) dss_nil)
  (dss_cons (ds_if (dw_and (dt_tru (de_startswith (db_var 0) (dab_cons de_str.b dab_nil)).b) (dw_and1 (dw_or (dt_tru (de_endswith (db_var 0) (dab_cons de_str.b dab_nil)).b) (dw_or1 (dt_tru (de_endswith (db_var 0) (dab_cons de_str.b dab_nil)).b))).t)).t (dss_cons (ds_set (i := 2) sc_part_of.nd (de_call (ok_ratio_of F) (hr.mono (by decide)) tk (da_cons (de_sl (db_var 0) (do_some de_int.b) (do_some (de_neg de_int.b).b)) da_nil)))
  (dss_cons (ds_set (i := 3) sc_part_of.nd (de_if (dt_eq (roomU hr) (de_ix (db_var 0) (de_neg de_int.b).b).b de_str.b) de_str de_str))
  (dss_one (ds_ret (de_if (dt_is (db_var 2) de_non.b) de_non (de_tup (da_cons (de_var 3) (da_cons (de_var 2) da_nil)))))))) dss_nil)
  (dss_one (ds_ret de_non)))))⟩) hm_part_of, F.glo 65, D.kp, D.bindsN fun _ _ _ _ _ _ us hl => match us, hl with | [_], _ => rfl⟩
theorem ok_read_term (F : Fx fa fn bs K mg base) : GFn P w K mg base "read_term" 6 false FS_read_term := by
  obtain ⟨fd, D⟩ := F.says.def_ 32 (d := df_read_term) rfl
  exact ⟨_, fd, _, fn_okD D sc_read_term (fun _ => rfl) (fun cdv A outer s H E hr tk hp => ⟨_, (dss_cons (ds_own (i := 1) sc_read_term.nd (df_lst da_nil))
  (dss_cons (ds_for hp rfl (di_list (de_split (db_var 0) (dab_cons de_str.b dab_nil))) (dg_name (i := 2) sc_read_term.nd) (dss_cons (ds_set (i := 3) sc_read_term.nd (de_call (ok_part_of F) (hr.mono (by decide)) tk (da_cons (de_var 2) da_nil)))
  (dss_cons (ds_if (dt_is (db_var 3) de_non.b) (dss_one (ds_raise (by rfl) tk (F.f 5) (F.glo 6))) dss_nil)
  (dss_one (ds_app (i := 1) (de_var 3))))))
  (dss_one (ds_ret (df_make (mk_Term F) (hr.mono (by decide)) tk (da_cons (de_var 1) da_nil)).e))))⟩) hm_read_term, F.glo 66, D.kp, D.bindsN fun _ _ _ _ _ _ us hl => match us, hl with | [_], _ => rfl⟩
theorem ok__law_read (F : Fx fa fn bs K mg base) : GFn P w K mg base "_law_read" 7 false FS__law_read := by
  obtain ⟨fd, D⟩ := F.says.def_ 33 (d := df__law_read) rfl
  exact ⟨_, fd, _, fn_okD D sc__law_read (fun _ => rfl) (fun cdv A outer s H E hr tk hp => ⟨_, (dss_cons (ds_set (i := 2) sc__law_read.nd (de_call (ok_read_term F) (hr.mono (by decide)) tk (da_cons (de_var 0) da_nil)))
  (dss_cons (ds_if (dt_not (dt_tru (de_isiC (insB_ok (He.cls_ok (F.f 18)) (F.b 0)) (by rfl) (F.free 25) (db_var 2) (by rfl) (F.glo 28)).b)) (dss_one (ds_ret de_bl)) dss_nil)
  (dss_cons (ds_own (i := 3) sc__law_read.nd (df_meth0 (ok_Term_told F) (hr.mono (by decide)) tk (de_var 2)))
  (dss_cons (ds_if (dw_or (dt_not (dt_tru (de_isiTy (T := "list") (by rfl) (F.free 25) (db_var 3) (by rfl) (F.free 20) (by decide +kernel)).b)) (dw_or1 (dt_ne (roomU hr) (db_var 3) (db_var 1)))).t (dss_one (ds_ret de_bl)) dss_nil)
  (dss_cons (ds_clear (i := 3))
  (dss_one (ds_ret (de_eq (roomU hr) (df_meth0 (ok_Term_told F) (hr.mono (by decide)) tk (de_var 2)).b (db_var 1)))))))))⟩) hm__law_read, F.glo 67, D.kp, D.bindsN fun _ _ _ _ _ _ us hl => match us, hl with | [_, _], _ => rfl⟩
theorem ok__law_small (F : Fx fa fn bs K mg base) : GFn P w K mg base "_law_small" 3 false FS__law_small := by
  obtain ⟨fd, D⟩ := F.says.def_ 34 (d := df__law_small) rfl
  exact ⟨_, fd, _, fn_okD D sc__law_small (fun _ => rfl) (fun cdv A outer s H E hr tk hp => ⟨_, (dss_cons (ds_set (i := 2) sc__law_small.nd (de_call (ok__law_number F) (hr.mono (by decide)) tk (da_cons (de_var 0) (da_cons (de_pow de_int.b de_int.b) da_nil))))
  (dss_cons (ds_set (i := 3) sc__law_small.nd (de_call (ok__law_number F) (hr.mono (by decide)) tk (da_cons (de_var 1) (da_cons (de_pow de_int.b de_int.b) da_nil))))
  (dss_cons (ds_for hp rfl (di_list (df_lst (da_cons (de_tup (da_cons (de_var 2) (da_cons (de_var 3) (da_cons de_int da_nil)))) (da_cons (de_tup (da_cons de_int (da_cons (de_var 2) (da_cons (de_var 3) da_nil)))) (da_cons (de_tup (da_cons (de_var 3) (da_cons de_int (da_cons (de_var 2) da_nil)))) (da_cons (de_tup (da_cons (de_var 2) (da_cons (de_var 3) (da_cons (de_var 2) da_nil)))) da_nil))))).e) (dg_name (i := 4) sc__law_small.nd) (dss_cons (ds_set (i := 5) sc__law_small.nd (de_call (ok_show_form F) (hr.mono (by decide)) tk (da_cons (de_var 4) da_nil)))
  (dss_one (ds_if (dw_or (dt_not (dt_tru (de_isiTy (T := "str") (by rfl) (F.free 25) (db_var 5) (by rfl) (F.free 22) (by decide +kernel)).b)) (dw_or1 (dt_ne (roomU hr) (db_var 5) (de_call (ok__law_form_text F) (hr.mono (by decide)) tk (da_cons (de_var 4) da_nil)).b))).t (dss_one (ds_ret de_bl)) dss_nil))))
  (dss_cons (ds_set (i := 6) sc__law_small.nd (de_call (ok__law_divisor F) (hr.mono (by decide)) tk (da_cons (de_var 2) (da_cons (de_add (de_abs (F.free 2) (dab_cons (db_var 3) dab_nil)).b de_int.b) da_nil))))
  (dss_cons (ds_set (i := 7) sc__law_small.nd (de_tup (da_cons (de_fdiv (db_var 2) (db_var 6)) (da_cons (de_fdiv (de_add (de_abs (F.free 2) (dab_cons (db_var 3) dab_nil)).b de_int.b).b (db_var 6)) da_nil))))
  (dss_cons (ds_set (i := 5) sc__law_small.nd (de_call (ok_show_ratio F) (hr.mono (by decide)) tk (da_cons (de_var 7) da_nil)))
  (dss_one (ds_ret (de_and (de_isiTy (T := "str") (by rfl) (F.free 25) (db_var 5) (by rfl) (F.free 22) (by decide +kernel)).b (de_one (de_eq (roomU hr) (db_var 5) (de_call (ok__law_ratio_text F) (hr.mono (by decide)) tk (da_cons (de_var 7) da_nil)).b)))))))))))⟩) hm__law_small, F.glo 68, D.kp, D.bindsN fun _ _ _ _ _ _ us hl => match us, hl with | [_, _], _ => rfl⟩
theorem ok__law_refused (F : Fx fa fn bs K mg base) : GFn P w K mg base "_law_refused" 7 false FS__law_refused := by
  obtain ⟨fd, D⟩ := F.says.def_ 35 (d := df__law_refused) rfl
  exact ⟨_, fd, _, fn_okD D sc__law_refused (fun _ => rfl) (fun cdv A outer s H E hr tk hp => ⟨_, (dss_cons (ds_set (i := 1) sc__law_refused.nd de_bl)
  (dss_cons (ds_try (tbl := [("NoTerm", true)]) tk rfl (F.glo 6) (tblF_cons (F.f 29) tblF_nil) (fun _ _ _ tk' hp' => ⟨_, (dss_one (ds_expr (de_call (ok_read_term F) (hr.mono (by decide)) tk' (da_cons (de_var 0) da_nil)).b))⟩) (fun _ _ _ _ _ => ⟨_, (dss_one (ds_set (i := 1) sc__law_refused.nd de_bl))⟩))
  (dss_one (ds_ret (de_var 1)))))⟩) hm__law_refused, F.glo 69, D.kp, D.bindsN fun _ _ _ _ _ _ us hl => match us, hl with | [_], _ => rfl⟩
theorem ok_law' (F : Fx fa fn bs K mg base) {fd : FuncData} (D : FunD K "law" "law" (defArgs t_law) (defBody t_law) (defScope t_law) [] [] (He.ga K "law") fd) : FnOk P w K mg base (L2.CX P w) 8 (He.ga K "law") fd ["_law_script"] (spD K false FS_law) :=
  fn_okD D sc_law (fun _ => rfl) (fun cdv A outer s H E hr tk hp => ⟨_, (dss_cons (ds_set (i := 1) sc_law.nd (de_call (ok__law_parts F) (hr.mono (by decide)) tk (da_cons (de_var 0) (da_cons (df_lst (da_cons de_int (da_cons de_int (da_cons de_int (da_cons de_int (da_cons de_int (da_cons de_int da_nil))))))).e da_nil))))
  (dss_cons (ds_set (i := 2) sc_law.nd (df_make (mk_Term F) (hr.mono (by decide)) tk (da_cons (df_listC (F.free 20) (dab_cons (db_var 1) dab_nil)).e da_nil)).e)
  (dss_cons (ds_set (i := 3) sc_law.nd (de_join de_str.b (dab_cons (df_lc1 6 [("_law_part_here", 6)] (N := N_law) (sc := defScope t_law) rfl sc_law.nd (di_list (de_var 1)) (by kernel_rfl) (fun _ _ _ _ _ => ⟨_, (de_call (ok__law_part_text F) (hr.mono (by decide)) takesF (da_cons (de_var 6) da_nil))⟩)).f.b dab_nil)))
  (dss_cons (ds_set (i := 4) sc_law.nd (de_call (ok_show_term F) (hr.mono (by decide)) tk (da_cons (de_var 2) da_nil)))
  (dss_cons (ds_if (dw_or (dt_not (dt_tru (de_isiTy (T := "str") (by rfl) (F.free 25) (db_var 4) (by rfl) (F.free 22) (by decide +kernel)).b)) (dw_or (dt_ne (roomU hr) (db_var 4) (db_var 3)) (dw_or1 (dt_not (dt_tru (de_call (ok__law_read F) (hr.mono (by decide)) tk (da_cons (de_var 4) (da_cons (de_var 1) da_nil))).b))))).t (dss_one (ds_ret de_bl)) dss_nil)
  (dss_cons (ds_for hp rfl (di_range2 (by rfl) (F.free 1) (dab_cons de_int.b (dab_cons (de_sub (de_min2 (by rfl) (F.free 7) (dab_cons (de_len (F.free 0) (dab_cons (db_var 0) dab_nil)).b (dab_cons de_int.b dab_nil))).b de_int.b).b dab_nil))) (dg_name (i := 5) sc_law.nd) (dss_one (ds_if (dt_not (dt_tru (de_call (ok__law_small F) (hr.mono (by decide)) tk (da_cons (de_ix (db_var 0) (db_var 5)) (da_cons (de_ix (db_var 0) (de_add (db_var 5) de_int.b).b) da_nil))).b)) (dss_one (ds_ret de_bl)) dss_nil)))
  (dss_cons (ds_if (dw_or (dt_ne (roomU hr) (de_call (ok_show_form F) (hr.mono (by decide)) tk (da_cons (de_tup (da_cons de_int (da_cons de_int (da_cons de_int da_nil)))) da_nil)).b de_str.b) (dw_or (dt_not (dt_tru (de_call (ok__law_refused F) (hr.mono (by decide)) tk (da_cons (de_add (db_var 4) de_str.b) da_nil)).b)) (dw_or1 (dt_not (dt_tru (de_call (ok__law_read F) (hr.mono (by decide)) tk (da_cons (de_var 3) (da_cons (de_var 1) da_nil))).b))))).t (dss_one (ds_ret de_bl)) dss_nil)
  (dss_cons (ds_for hp rfl (di_list (de_var 1)) (dg_name (i := 6) sc_law.nd) (dss_one (ds_if (dt_not (dt_tru (de_call (ok__law_read F) (hr.mono (by decide)) tk (da_cons (de_call (ok__law_part_text F) (hr.mono (by decide)) tk (da_cons (de_var 6) da_nil)) (da_cons (df_lst (da_cons (de_var 6) da_nil)).e da_nil))).b)) (dss_one (ds_ret de_bl)) dss_nil)))
  (dss_one (ds_ret (de_and (de_eq (roomU hr) (de_call (ok_show_term F) (hr.mono (by decide)) tk (da_cons (de_var 2) da_nil)).b (db_var 3)).b (de_one (de_eq (roomU hr) (df_meth0 (ok_Term_told F) (hr.mono (by decide)) tk (de_var 2)).b (db_var 1))))))))))))))⟩) hm_law
end

theorem law_pre {K : Frg} {H : Hp} {a : Addr} {ns : List Int} (hl : ns.length ≤ 63) (hS : SqL K H a (ns.map V.int)) : spD K false FS_law [.ref a] H (fun v _ => v = .bl true) fun _ _ _ => False := by
  refine ⟨ns, [], (fun b m => nomatch m), Reps.cons ?_ Reps.nil, hl, ?_⟩
  · rw [hide_nil]
    unfold Rep
    exact ⟨a, _, rfl, hS, reps_ints⟩
  · intro v H' g post
    have post' : Rep K (hide [] H') (.bl true) v := post
    unfold Rep at post'
    exact post'

def loose0 : List Str := [("_wall" : Str), ("SumError" : Str), ("NoNumber" : Str), ("NoTerm" : Str), ("divisor" : Str), ("ratio" : Str), ("multiplied" : Str), ("without_noughts" : Str), ("pair_times" : Str), ("pair_of_form" : Str), ("form_value" : Str), ("factorial" : Str), ("raised" : Str), ("rising" : Str), ("Part" : Str), ("Choose" : Str), ("Weight" : Str), ("Power" : Str), ("Growth" : Str), ("MOST" : Str), ("within" : Str), ("is_choose" : Str), ("made_part" : Str), ("Term" : Str), ("FIGURES" : Str), ("LONGEST" : Str), ("show_ratio" : Str), ("show_piece" : Str), ("show_form" : Str), ("show_part" : Str), ("show_term" : Str), ("number_of" : Str), ("ratio_of" : Str), ("pieces_of" : Str), ("form_of" : Str)]
def loose1 : List Str := [("choose_of" : Str), ("part_of" : Str), ("read_term" : Str), ("_law_cell_at" : Str), ("_law_number" : Str), ("_law_divisor" : Str), ("_law_mixed" : Str), ("_law_forms" : Str), ("_law_ratio" : Str), ("_law_part" : Str), ("_law_parts" : Str), ("_law_form_text" : Str), ("_law_ratio_text" : Str), ("_law_part_text" : Str), ("_law_read" : Str), ("_law_refused" : Str), ("_law_small" : Str)]
def loose : List Str := loose0 ++ loose1
abbrev R : PySem.W.OpenRow := PySem.W.OpenLaw.row PySem.Challenge.rw_sumcraft_k57_terms_written_and_read
abbrev hk : PySem.W.Hook := hookX 5 fa fn bs
def ob (s : PySem.W.SharedT) : He.AlD := obsXG 5 fa fn bs (HandSHeadRun.getT s)
theorem ob_eq (s : PySem.W.SharedT) : ob s = hk.obs s.abs := obsXG_eq (HandSHeadRun.getT_eq s)
theorem run (w : World) : HandSHeadRun.RunEq R (PySem.W.view R.prog [59]) hk ob 30000 loose w := by
  intro os
  kernel_rfl
theorem facts {P : Program} {w : World} {K : PySem.W.Frag} {h : Heap} {mg : Str → Option Value} {f : Addr} (X : K.In h) (G : h.Ns mainGlobals mg) (hfa : mg ("law" : Str) = some (.ref f)) (c : SaysX fa fn bs K) :
    ∃ fd : FuncData, (∀ (s : Shared) (v : Value), BindsTo s fd ⟨[v], []⟩ [("_law_script", v)]) ∧ ∀ base : Heap, K.In base → base.Ns mainGlobals mg → FnOk P w K mg base L2.CX0 8 f fd ["_law_script"] (fun vs H Q _ => spD K false FS_law vs H Q fun _ _ _ => False) := by
  obtain ⟨fd, D⟩ := c.def_ 36 (d := df_law) rfl
  have e := hfa.symm.trans (He.glo_ok X G ((Fx.mk X G c : Fx fa fn bs K mg h).f 70 (f := .glo "law") rfl))
  cases e
  have b := FunD.bindsA (ps := ["_law_script"]) D fun _ _ _ _ _ _ us hl => match us, hl with | [_], _ => rfl
  exact ⟨fd, fun s v => b s [v] rfl, fun base h1 h2 => fnOk_0 (ok_law' (P := P) (w := w) ⟨h1, h2, c⟩ D)⟩

end T57
open PySem PySem.W PySem.Calls PyProof.Rows
set_option maxHeartbeats 0 in
theorem PySem.Challenge.cw_sumcraft_k57_terms_written_and_read_holds : PySem.Challenge.rw_sumcraft_k57_terms_written_and_read.Holds := by
  w_on; o_law
  refine HandSHeadRun.head_any (r := OpenLaw.row PySem.Challenge.rw_sumcraft_k57_terms_written_and_read) (q := view (OpenLaw.row PySem.Challenge.rw_sumcraft_k57_terms_written_and_read).prog [59]) (H := T57.hk) (ob := T57.ob) (M := 30000) (loose := T57.loose) (d := HandSHeadRun.topDef (OpenLaw.row PySem.Challenge.rw_sumcraft_k57_terms_written_and_read).prog 59) (kwd := []) T57.ob_eq
    (by kernel_rfl) (fun s => by kernel_rfl) T57.run (by kernel_rfl) (by kernel_rfl) (by kernel_rfl) (by rfl) (by first | assumption | decide +kernel) (by decide +kernel) ⟨rfl, rfl, rfl, rfl, rfl, by decide +kernel⟩ ?hw ?hc
  case hw => w_witness2
  case hc =>
    refine L2.walk_ofE (l := PySem.Challenge.rw_sumcraft_k57_terms_written_and_read) (n := 63) (k := 8) (x := "_law_script") (CX := L2.CX0) rfl (by decide) (by kernel_rfl) ⟨rfl, by decide, by decide⟩ ?F (fun _ _ _ _ z => z)
    intro w mg fa h Y G hmg0
    obtain ⟨K, KX, c⟩ := Y
    have hmg : mg ("law" : PySem.Str) = some (.ref fa) := by
      have e : (HandSHeadRun.topDef (OpenLaw.row PySem.Challenge.rw_sumcraft_k57_terms_written_and_read).prog 59).name = ("law" : PySem.Str) := by kernel_rfl
      rw [← e]
      exact hmg0
    obtain ⟨fd, hb, hF⟩ := T57.facts (P := (PySem.Challenge.rw_sumcraft_k57_terms_written_and_read).prog) (w := w) KX G hmg c
    exact ⟨K, fd, (fun vs H Q _ => DL.spD K false T57.FS_law vs H Q fun _ _ _ => False), KX, hb, fun H a ns hl _ hS => T57.law_pre hl hS, hF⟩

