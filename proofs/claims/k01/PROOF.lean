import PyProof.Rows.All
import Wide.All
import OpenK.AllK
import Wide.FinOn
import HandS.ForMost
import HandS.ForExc
import HandS.ExcInit
import HandS.HotCalls
import HandS.ExcIs
import HandS.ExcField
import HandS.IsInst
import HandS.Style
import HandS.Flow
import HandS.Wide
import HandS.Gcd
import HandS.Codes
import HandS.Small
import HandS.ExcOwn
import PySem.Challenge.RW_hiddenmoves_k01_errors_as_told
set_option Elab.async false
set_option linter.all false
set_option maxRecDepth 100000
/-! The deep layer: values of any depth that never change (D), the objects that change (Mm), readings over both. -/
namespace Dq
open PySem PySem.Spec PyProof.Rows L2

abbrev St := L2.St
/-- a value as a whole -/
inductive D where
  | non | bl (b : Bool) | int (i : Int) | str (x : Str) | ref (a : Addr) | ty (n : String)
  | tup (xs : List D) | lst (xs : List D) | scr (ns : List Int)
  | dic (kvs : List (Key × D))

mutual
def Rep (K : PySem.W.Frag) (H : Hp) : D → V → Prop
  | .non, v => v = .non
  | .bl b, v => v = .bl b
  | .int i, v => v = .int i
  | .str x, v => v = .str x
  | .ref a, v => v = .ref a
  | .ty n, v => v = .ty n
  | .tup xs, v => ∃ a vs, v = .ref a ∧ SqT K H a vs ∧ Reps K H xs vs
  | .lst xs, v => ∃ a vs, v = .ref a ∧ H a = some (.lst vs) ∧ Reps K H xs vs
  | .scr ns, v => ∃ a, v = .ref a ∧ SqL K H a (ns.map V.int)
  | .dic kvs, v => ∃ a ws, v = .ref a ∧ H a = some (.dK ws) ∧ RepK K H kvs ws
def Reps (K : PySem.W.Frag) (H : Hp) : List D → List V → Prop
  | [], vs => vs = []
  | d :: ds, vs => ∃ v ws, vs = v :: ws ∧ Rep K H d v ∧ Reps K H ds ws
def RepK (K : PySem.W.Frag) (H : Hp) : List (Key × D) → List (Key × V) → Prop
  | [], ws => ws = []
  | (k, d) :: r, ws => ∃ v rs, ws = (k, v) :: rs ∧ Rep K H d v ∧ RepK K H r rs
end
section
variable {K : PySem.W.Frag} {H H' : Hp}
theorem sameT {a : Addr} {xs : List V} (e : Same H H') (h : SqT K H a xs) : SqT K H' a xs := by
  rcases h with (h | ⟨o, h⟩) | h
  · exact .inl (.inl (e _ _ h))
  · exact .inl (.inr ⟨o, e _ _ h⟩)
  · exact .inr h
mutual
theorem Rep.mono (e : Same H H') : ∀ {d : D} {v : V}, Rep K H d v → Rep K H' d v
  | .non, _, h => by unfold Rep at h ⊢; exact h
  | .bl _, _, h => by unfold Rep at h ⊢; exact h
  | .int _, _, h => by unfold Rep at h ⊢; exact h
  | .str _, _, h => by unfold Rep at h ⊢; exact h
  | .ref _, _, h => by unfold Rep at h ⊢; exact h
  | .ty _, _, h => by unfold Rep at h ⊢; exact h
  | .tup xs, _, h => by
    unfold Rep at h ⊢
    obtain ⟨a, vs, r, q, p⟩ := h
    exact ⟨a, vs, r, sameT e q, Reps.mono e p⟩
  | .lst xs, _, h => by
    unfold Rep at h ⊢
    obtain ⟨a, vs, r, q, p⟩ := h
    exact ⟨a, vs, r, e _ _ q, Reps.mono e p⟩
  | .scr ns, _, h => by
    unfold Rep at h ⊢
    obtain ⟨a, r, q⟩ := h
    exact ⟨a, r, e.seq q⟩
  | .dic kvs, _, h => by
    unfold Rep at h ⊢
    obtain ⟨a, ws, r, q, p⟩ := h
    exact ⟨a, ws, r, e _ _ q, RepK.mono e p⟩
theorem Reps.mono (e : Same H H') : ∀ {ds : List D} {vs : List V}, Reps K H ds vs → Reps K H' ds vs
  | [], _, h => by unfold Reps at h ⊢; exact h
  | d :: ds, _, h => by
    unfold Reps at h ⊢
    obtain ⟨v, ws, r, q, p⟩ := h
    exact ⟨v, ws, r, Rep.mono e q, Reps.mono e p⟩
theorem RepK.mono (e : Same H H') : ∀ {kvs : List (Key × D)} {ws : List (Key × V)}, RepK K H kvs ws → RepK K H' kvs ws
  | [], _, h => by unfold RepK at h ⊢; exact h
  | (k, d) :: r, _, h => by
    unfold RepK at h ⊢
    obtain ⟨v, rs, e1, q, p⟩ := h
    exact ⟨v, rs, e1, Rep.mono e q, RepK.mono e p⟩
end
theorem Reps.length : ∀ {ds : List D} {vs : List V}, Reps K H ds vs → ds.length = vs.length
  | [], _, h => by unfold Reps at h; subst h; rfl
  | d :: ds, _, h => by
    unfold Reps at h
    obtain ⟨v, ws, rfl, _, p⟩ := h
    rw [List.length_cons, List.length_cons, Reps.length p]
theorem Reps.get : ∀ {ds : List D} {vs : List V} {i : Nat} {d : D}, Reps K H ds vs → ds[i]? = some d → ∃ v, vs[i]? = some v ∧ Rep K H d v
  | [], _, _, _, _, e => by simp at e
  | d :: ds, _, 0, _, h, e => by
    unfold Reps at h
    obtain ⟨v, ws, rfl, q, p⟩ := h
    simp at e
    subst e
    exact ⟨v, by simp, q⟩
  | d :: ds, _, i + 1, _, h, e => by
    unfold Reps at h
    obtain ⟨v, ws, rfl, q, p⟩ := h
    obtain ⟨u, e1, e2⟩ := Reps.get (i := i) p (by simpa using e)
    exact ⟨u, by simpa using e1, e2⟩
theorem Reps.nil : Reps K H [] [] := by unfold Reps; rfl
theorem Reps.cons {d : D} {ds : List D} {v : V} {vs : List V} (h : Rep K H d v) (t : Reps K H ds vs) : Reps K H (d :: ds) (v :: vs) := by
  unfold Reps
  exact ⟨v, vs, rfl, h, t⟩
theorem Reps.append : ∀ {ds es : List D} {vs ws : List V}, Reps K H ds vs → Reps K H es ws → Reps K H (ds ++ es) (vs ++ ws)
  | [], _, _, _, h, t => by unfold Reps at h; subst h; exact t
  | d :: ds, _, _, _, h, t => by
    unfold Reps at h
    obtain ⟨v, ws, rfl, q, p⟩ := h
    exact Reps.cons q (Reps.append p t)
theorem Reps.of_get : ∀ {ds : List D} {vs : List V}, ds.length = vs.length → (∀ (i : Nat) (d : D) (v : V), ds[i]? = some d → vs[i]? = some v → Rep K H d v) → Reps K H ds vs
  | [], [], _, _ => Reps.nil
  | d :: ds, v :: vs, hl, h => Reps.cons (h 0 d v (by simp) (by simp)) (Reps.of_get (by simpa using hl) fun i d' v' e1 e2 => h (i + 1) d' v' (by simpa using e1) (by simpa using e2))
  | [], _ :: _, hl, _ => by simp at hl
  | _ :: _, [], hl, _ => by simp at hl
theorem Reps.drop {ds : List D} {vs : List V} (h : Reps K H ds vs) (n : Nat) : Reps K H (ds.drop n) (vs.drop n) := by
  refine Reps.of_get (by rw [List.length_drop, List.length_drop, h.length]) fun i d v e1 e2 => ?_
  rw [List.getElem?_drop] at e1 e2
  obtain ⟨u, q1, q2⟩ := h.get e1
  rw [q1] at e2
  cases e2
  exact q2
theorem Reps.take {ds : List D} {vs : List V} (h : Reps K H ds vs) (n : Nat) : Reps K H (ds.take n) (vs.take n) := by
  refine Reps.of_get (by rw [List.length_take, List.length_take, h.length]) fun i d v e1 e2 => ?_
  rw [List.getElem?_take] at e1 e2
  split at e1
  · rename_i hi
    rw [if_pos hi] at e2
    obtain ⟨u, q1, q2⟩ := h.get e1
    rw [q1] at e2
    cases e2
    exact q2
  · cases e1
end
/-- a dict's look-up -/
def dget (kvs : List (Key × D)) (k : Key) : Option D := (kvs.find? fun kv => decide (kv.1 = k)).map (·.2)
/-- a dict's store -/
def dput (kvs : List (Key × D)) (k : Key) (v : D) : List (Key × D) :=
  if (kvs.any fun kv => decide (kv.1 = k)) = true then kvs.map (fun kv => if kv.1 = k then (kv.1, v) else kv) else kvs ++ [(k, v)]
section
variable {K : PySem.W.Frag} {H H' : Hp}
theorem RepK.get : ∀ {kvs : List (Key × D)} {ws : List (Key × V)} {k : Key} {d : D}, RepK K H kvs ws → dget kvs k = some d → ∃ v, valV ws k = some v ∧ Rep K H d v
  | [], _, _, _, _, e => by simp [dget] at e
  | (k0, d0) :: r, _, k, d, h, e => by
    unfold RepK at h
    obtain ⟨v, rs, rfl, q, p⟩ := h
    by_cases hk : k0 = k
    · have e1 : dget ((k0, d0) :: r) k = some d0 := by simp [dget, List.find?_cons, hk]
      rw [e1] at e
      cases e
      exact ⟨v, valV_pos (p := (k0, v)) hk, q⟩
    · have e1 : dget ((k0, d0) :: r) k = dget r k := by simp [dget, List.find?_cons, hk]
      rw [e1] at e
      rw [valV_neg (p := (k0, v)) hk]
      exact RepK.get p e
theorem RepK.none : ∀ {kvs : List (Key × D)} {ws : List (Key × V)} {k : Key}, RepK K H kvs ws → dget kvs k = Option.none → valV ws k = Option.none
  | [], _, _, h, _ => by unfold RepK at h; subst h; rfl
  | (k0, d0) :: r, _, k, h, e => by
    unfold RepK at h
    obtain ⟨v, rs, rfl, q, p⟩ := h
    by_cases hk : k0 = k
    · have e1 : dget ((k0, d0) :: r) k = some d0 := by simp [dget, List.find?_cons, hk]
      rw [e1] at e
      cases e
    · have e1 : dget ((k0, d0) :: r) k = dget r k := by simp [dget, List.find?_cons, hk]
      rw [e1] at e
      rw [valV_neg (p := (k0, v)) hk]
      exact RepK.none p e
theorem RepK.any : ∀ {kvs : List (Key × D)} {ws : List (Key × V)} (k : Key), RepK K H kvs ws → (kvs.any fun kv => decide (kv.1 = k)) = (ws.any fun kv => decide (kv.1 = k))
  | [], _, _, h => by unfold RepK at h; subst h; rfl
  | (k0, d0) :: r, _, k, h => by
    unfold RepK at h
    obtain ⟨v, rs, rfl, q, p⟩ := h
    rw [List.any_cons, List.any_cons, RepK.any k p]
theorem RepK.map : ∀ {kvs : List (Key × D)} {ws : List (Key × V)} {k : Key} {d : D} {v : V}, RepK K H kvs ws → Rep K H d v →
    RepK K H (kvs.map fun kv => if kv.1 = k then (kv.1, d) else kv) (ws.map fun kv => if kv.1 = k then (kv.1, v) else kv)
  | [], _, _, _, _, h, _ => by unfold RepK at h; subst h; unfold RepK; rfl
  | (k0, d0) :: r, _, k, d, v, h, hd => by
    unfold RepK at h
    obtain ⟨v0, rs, rfl, q, p⟩ := h
    have ih := RepK.map (k := k) p hd
    rw [List.map_cons, List.map_cons]
    by_cases hk : k0 = k
    · rw [if_pos hk, if_pos hk]; unfold RepK; exact ⟨v, _, rfl, hd, ih⟩
    · rw [if_neg hk, if_neg hk]; unfold RepK; exact ⟨v0, _, rfl, q, ih⟩
theorem RepK.nil : RepK K H [] [] := by unfold RepK; rfl
theorem RepK.cons {k : Key} {d : D} {v : V} {kvs : List (Key × D)} {ws : List (Key × V)} (h : Rep K H d v) (t : RepK K H kvs ws) : RepK K H ((k, d) :: kvs) ((k, v) :: ws) := by
  unfold RepK; exact ⟨v, ws, rfl, h, t⟩
theorem RepK.snoc : ∀ {kvs : List (Key × D)} {ws : List (Key × V)} {k : Key} {d : D} {v : V}, RepK K H kvs ws → Rep K H d v → RepK K H (kvs ++ [(k, d)]) (ws ++ [(k, v)])
  | [], _, _, _, _, h, hd => by unfold RepK at h; subst h; exact RepK.cons hd RepK.nil
  | (k0, d0) :: r, _, k, d, v, h, hd => by
    unfold RepK at h
    obtain ⟨v0, rs, rfl, q, p⟩ := h
    exact RepK.cons q (RepK.snoc p hd)
theorem RepK.put {kvs : List (Key × D)} {ws : List (Key × V)} {k : Key} {d : D} {v : V} (h : RepK K H kvs ws) (hd : Rep K H d v) : RepK K H (dput kvs k d) (putK ws k v) := by
  unfold dput putK
  rw [RepK.any k h]
  split
  · exact h.map hd
  · exact h.snoc hd
theorem RepK.length : ∀ {kvs : List (Key × D)} {ws : List (Key × V)}, RepK K H kvs ws → kvs.length = ws.length
  | [], _, h => by unfold RepK at h; subst h; rfl
  | (k0, d0) :: r, _, h => by
    unfold RepK at h
    obtain ⟨v0, rs, rfl, q, p⟩ := h
    rw [List.length_cons, List.length_cons, RepK.length p]
end

/-! ### what changes -/
/-- an object that changes: a list, a dict -/
inductive MO where
  | lst (xs : List D) | dic (kvs : List (Key × D))
abbrev Mm := Addr → Option MO
def Mm.set (M : Mm) (a : Addr) (o : MO) : Mm := fun b => if b = a then some o else M b
def Mm.del (M : Mm) (a : Addr) : Mm := fun b => if b = a then none else M b
theorem Mm.set_same {M : Mm} {a : Addr} {o : MO} : M.set a o a = some o := if_pos rfl
theorem Mm.set_ne {M : Mm} {a b : Addr} {o : MO} (h : b ≠ a) : M.set a o b = M b := if_neg h
theorem Mm.set_set {M : Mm} {a : Addr} {o u : MO} : (M.set a o).set a u = M.set a u := by funext b; unfold Mm.set; split <;> rfl
theorem Mm.del_set {M : Mm} {a : Addr} {o : MO} (h : M a = none) : (M.set a o).del a = M := by
  funext b
  show (if b = a then none else if b = a then some o else M b) = M b
  by_cases e : b = a
  · rw [if_pos e, e, h]
  · rw [if_neg e, if_neg e]
def ObjR (K : PySem.W.Frag) (G H : Hp) (a : Addr) : MO → Prop
  | .lst xs => ∃ vs, H a = some (.lst vs) ∧ Reps K G xs vs
  | .dic kvs => ∃ ws, H a = some (.dK ws) ∧ RepK K G kvs ws
/-- G: the part that never changes; M: the part that does -/
structure RelH (K : PySem.W.Frag) (M : Mm) (G H : Hp) : Prop where
  sub : Same G H
  mem : ∀ a o, M a = some o → G a = none ∧ ObjR K G H a o
section
variable {K : PySem.W.Frag} {M : Mm} {G G' H H' : Hp} {a p : Addr}
theorem ObjR.there {o : MO} (h : ObjR K G H a o) : ∃ u, H a = some u := by
  cases o with
  | lst xs => obtain ⟨vs, e, _⟩ := h; exact ⟨_, e⟩
  | dic kvs => obtain ⟨ws, e, _⟩ := h; exact ⟨_, e⟩
theorem ObjR.keep {o : MO} (h : ObjR K G H a o) (s : Same G G') (e : H' a = H a) : ObjR K G' H' a o := by
  cases o with
  | lst xs => obtain ⟨vs, e1, r⟩ := h; exact ⟨vs, e.trans e1, r.mono s⟩
  | dic kvs => obtain ⟨ws, e1, r⟩ := h; exact ⟨ws, e.trans e1, r.mono s⟩
theorem RelH.free (r : RelH K M G H) (h : H p = none) : G p = none := r.sub.free h
theorem RelH.freeM (r : RelH K M G H) (h : H p = none) : M p = none := by
  cases e : M p with
  | none => rfl
  | some o =>
    obtain ⟨u, q⟩ := (r.mem p o e).2.there
    rw [h] at q; cases q
theorem same_upd {o : HO} (h : G p = none) : Same G (upd G p o) := fun b u e => by rw [upd_ne (ne_of_none e h)]; exact e
/-- a new thing that never changes -/
theorem RelH.laid (r : RelH K M G H) (h : H p = none) (o : HO) : RelH K M (upd G p o) (upd H p o) := by
  refine ⟨fun b u e => ?_, fun b u e => ?_⟩
  · by_cases hb : b = p
    · rw [hb, upd_same] at e ⊢; exact e
    · rw [upd_ne hb] at e ⊢; exact r.sub b u e
  · obtain ⟨q1, q2⟩ := r.mem b u e
    have hb : b ≠ p := fun z => by
      obtain ⟨w, q⟩ := q2.there
      rw [z, h] at q; cases q
    exact ⟨by rw [upd_ne hb]; exact q1, q2.keep (same_upd (r.free h)) (upd_ne hb)⟩
/-- a new thing that changes -/
theorem RelH.newM (r : RelH K M G H) (h : H p = none) {o : HO} {m : MO} (q : ObjR K G (upd H p o) p m) : RelH K (M.set p m) G (upd H p o) := by
  refine ⟨fun b u e => ?_, fun b u e => ?_⟩
  · rw [upd_ne (ne_of_none e (r.free h))]; exact r.sub b u e
  · by_cases hb : b = p
    · rw [hb, Mm.set_same] at e; cases e
      rw [hb]; exact ⟨r.free h, q⟩
    · rw [Mm.set_ne hb] at e
      obtain ⟨q1, q2⟩ := r.mem b u e
      exact ⟨q1, q2.keep (Same.refl _) (upd_ne hb)⟩
/-- it is changed -/
theorem RelH.write (r : RelH K M G H) {m0 : MO} (h : M p = some m0) {o : HO} {m : MO} (q : ObjR K G (upd H p o) p m) : RelH K (M.set p m) G (upd H p o) := by
  obtain ⟨g, _⟩ := r.mem p m0 h
  refine ⟨fun b u e => ?_, fun b u e => ?_⟩
  · rw [upd_ne (ne_of_none e g)]; exact r.sub b u e
  · by_cases hb : b = p
    · rw [hb, Mm.set_same] at e; cases e
      rw [hb]; exact ⟨g, q⟩
    · rw [Mm.set_ne hb] at e
      obtain ⟨q1, q2⟩ := r.mem b u e
      exact ⟨q1, q2.keep (Same.refl _) (upd_ne hb)⟩
/-- from now on it never changes -/
theorem RelH.freeze (r : RelH K M G H) {m : MO} (h : M p = some m) {o : HO} (e : H p = some o) : RelH K (M.del p) (upd G p o) H := by
  obtain ⟨g, _⟩ := r.mem p m h
  refine ⟨fun b u q => ?_, fun b u q => ?_⟩
  · by_cases hb : b = p
    · rw [hb, upd_same] at q; cases q; rw [hb]; exact e
    · rw [upd_ne hb] at q; exact r.sub b u q
  · by_cases hb : b = p
    · rw [hb] at q; unfold Mm.del at q; rw [if_pos rfl] at q; cases q
    · unfold Mm.del at q; rw [if_neg hb] at q
      obtain ⟨q1, q2⟩ := r.mem b u q
      exact ⟨by rw [upd_ne hb]; exact q1, q2.keep (same_upd g) rfl⟩
theorem RelH.drop (r : RelH K M G H) (p : Addr) : RelH K (M.del p) G H := by
  refine ⟨r.sub, fun b u q => ?_⟩
  unfold Mm.del at q
  split at q
  · cases q
  · exact r.mem b u q
theorem RelH.less {M' : Mm} (r : RelH K M G H) (h : ∀ a o, M' a = some o → M a = some o) : RelH K M' G H := ⟨r.sub, fun b u q => r.mem b u (h b u q)⟩
end

/-! ### the slots -/
abbrev Ds := List (Option D)
structure Locs (K : PySem.W.Frag) (ρ : Ds) (G : Hp) (σ : St) : Prop where
  len : ρ.length = σ.length
  loc : ∀ (i : Nat) (d : D), ρ[i]? = some (some d) → ∃ v, σ[i]? = some (some v) ∧ Rep K G d v
theorem Locs.mono {K : PySem.W.Frag} {ρ : Ds} {G G' : Hp} {σ : St} (h : Locs K ρ G σ) (s : Same G G') : Locs K ρ G' σ :=
  ⟨h.len, fun i d e => let ⟨v, e1, e2⟩ := h.loc i d e; ⟨v, e1, e2.mono s⟩⟩
theorem Locs.set {K : PySem.W.Frag} {ρ : Ds} {G : Hp} {σ : St} {d : D} {v : V} (h : Locs K ρ G σ) (i : Nat) (r : Rep K G d v) : Locs K (ρ.set i (some d)) G (σ.set i (some v)) := by
  refine ⟨by rw [List.length_set, List.length_set]; exact h.len, fun j e q => ?_⟩
  by_cases hj : i = j
  · subst hj
    have hlt : i < ρ.length := by
      rcases Nat.lt_or_ge i ρ.length with z | z
      · exact z
      · rw [List.getElem?_eq_none (by rw [List.length_set]; exact z)] at q; cases q
    rw [List.getElem?_set_self hlt] at q
    cases q
    exact ⟨v, List.getElem?_set_self (by rw [← h.len]; exact hlt), r⟩
  · rw [List.getElem?_set_ne hj] at q ⊢
    exact h.loc j e q
/-- slots forgotten -/
theorem Locs.less {K : PySem.W.Frag} {ρ ρ' : Ds} {G : Hp} {σ : St} (h : Locs K ρ G σ) (hl : ρ'.length = ρ.length) (w : ∀ (i : Nat) (d : D), ρ'[i]? = some (some d) → ρ[i]? = some (some d)) : Locs K ρ' G σ :=
  ⟨hl.trans h.len, fun i d e => h.loc i d (w i d e)⟩

/-! ### readings -/
abbrev DK := D → Mm → Prop
abbrev DE := Ds → Mm → DK → Prop
abbrev DT := Ds → Mm → (Bool → Mm → Prop) → Prop
abbrev DA := Ds → Mm → (List D → Mm → Prop) → Prop
/-- an exception: its class, its fields -/
abbrev DX := Addr → List (Str × D) → Mm → Prop
abbrev DXS := Addr → List (Str × D) → Ds → Mm → Prop
structure DEnds where
  nx : Ds → Mm → Prop
  rt : DK
  bk : Ds → Mm → Prop := fun _ _ => False
  ct : Ds → Mm → Prop := fun _ _ => False
abbrev DS := DEnds → Ds → Mm → Prop
abbrev DG := D → Ds → Mm → (Ds → Mm → Prop) → Prop

/-- G0: what stood at the entry -/
def up (K : PySem.W.Frag) (G0 : Hp) (de : DE) : TE := fun σ H Q => ∃ ρ M G Qd, Same G0 G ∧ RelH K M G H ∧ Locs K ρ G σ ∧ de ρ M Qd ∧ ∀ d M' G' v H', Same G G' → RelH K M' G' H' → Rep K G' d v → Qd d M' → Q v H'
def upT (K : PySem.W.Frag) (G0 : Hp) (dt : DT) : TT := fun σ H Q => ∃ ρ M G Qd, Same G0 G ∧ RelH K M G H ∧ Locs K ρ G σ ∧ dt ρ M Qd ∧ ∀ b M' G' H', Same G G' → RelH K M' G' H' → Qd b M' → Q b H'
def upA (K : PySem.W.Frag) (G0 : Hp) (da : DA) : TA := fun σ H Q => ∃ ρ M G Qd, Same G0 G ∧ RelH K M G H ∧ Locs K ρ G σ ∧ da ρ M Qd ∧ ∀ ds M' G' vs H', Same G G' → RelH K M' G' H' → Reps K G' ds vs → Qd ds M' → Q vs H'
def upS (K : PySem.W.Frag) (G0 : Hp) (ds : DS) : TS := fun D σ H => ∃ ρ M G Dd, Same G0 G ∧ RelH K M G H ∧ Locs K ρ G σ ∧ ds Dd ρ M ∧
  (∀ ρ' M' G' σ' H', Same G G' → RelH K M' G' H' → Locs K ρ' G' σ' → Dd.nx ρ' M' → D.nx σ' H') ∧
  (∀ d M' G' v H', Same G G' → RelH K M' G' H' → Rep K G' d v → Dd.rt d M' → D.rt v H') ∧
  (∀ ρ' M' G' σ' H', Same G G' → RelH K M' G' H' → Locs K ρ' G' σ' → Dd.bk ρ' M' → D.bk σ' H') ∧
  (∀ ρ' M' G' σ' H', Same G G' → RelH K M' G' H' → Locs K ρ' G' σ' → Dd.ct ρ' M' → D.ct σ' H')
def upG (K : PySem.W.Frag) (G0 : Hp) (dg : DG) : TG := fun v σ H Q => ∃ ρ M G d Qd, Same G0 G ∧ RelH K M G H ∧ Locs K ρ G σ ∧ Rep K G d v ∧ dg d ρ M Qd ∧ ∀ ρ' M' G' σ' H', Same G G' → RelH K M' G' H' → Locs K ρ' G' σ' → Qd ρ' M' → Q σ' H'
/-- an exception's dict: what is told of each field -/
def RepF (K : PySem.W.Frag) (G : Hp) (fs : List (Str × D)) (ws : List (Str × V)) : Prop := ∀ f d, fs.lookup f = some d → ∃ v, ws.lookup f = some v ∧ Rep K G d v
theorem RepF.mono {K : PySem.W.Frag} {G G' : Hp} {fs : List (Str × D)} {ws : List (Str × V)} (h : RepF K G fs ws) (s : Same G G') : RepF K G' fs ws := fun f d e => let ⟨v, e1, p⟩ := h f d e; ⟨v, e1, p.mono s⟩
def XdR (K : PySem.W.Frag) (G H : Hp) (d : Option Addr) (fs : List (Str × D)) : Prop := (d = none ∧ fs = []) ∨ ∃ dd ws, d = some dd ∧ H dd = some (.xd ws) ∧ RepF K G fs ws
def upW (K : PySem.W.Frag) (G0 : Hp) (Wd : DXS) : WX := fun cls d σ H => ∃ C fs ρ M G, Same G0 G ∧ RelH K M G H ∧ Locs K ρ G σ ∧ cls = .ref C ∧ XdR K G H d fs ∧ Wd C fs ρ M

section
variable {X : Cx}
theorem pe_mono {e : Expr} {t t' : TE} (h : PE X e t) (i : ∀ σ H Q, t' σ H Q → t σ H Q) : PE X e t' := ⟨fun pins s σ H Q I q => h.run pins s σ H Q I (i σ H Q q)⟩
theorem pt_mono {e : Expr} {t t' : TT} (h : PT X e t) (i : ∀ σ H Q, t' σ H Q → t σ H Q) : PT X e t' := ⟨fun pins s σ H Q I q => h.run pins s σ H Q I (i σ H Q q)⟩
theorem pw_mono {e : Expr} {t t' : TT} (h : PW X e t) (i : ∀ σ H Q, t' σ H Q → t σ H Q) : PW X e t' := ⟨fun wh pins s σ H Q I q => h.run wh pins s σ H Q I (i σ H Q q)⟩
theorem pa_mono {es : List Expr} {t t' : TA} (h : PA X es t) (i : ∀ σ H Q, t' σ H Q → t σ H Q) : PA X es t' := ⟨fun pos pins s σ H Q I q => h.run pos pins s σ H Q I (i σ H Q q)⟩
theorem ps_mono {st : Stmt} {t t' : TS} (h : PS X st t) (i : ∀ D σ H, t' D σ H → t D σ H) : PS X st t' := ⟨fun pins s σ H D I q => h.run pins s σ H D I (i D σ H q)⟩
theorem pss_mono {st : List Stmt} {t t' : TS} (h : PSs X st t) (i : ∀ D σ H, t' D σ H → t D σ H) : PSs X st t' := ⟨fun pins s σ H D I q => h.run pins s σ H D I (i D σ H q)⟩
theorem pg_mono {e : Expr} {t t' : TG} (h : PG X e t) (i : ∀ v σ H Q, t' v σ H Q → t v σ H Q) : PG X e t' := ⟨fun pins s σ H v u Q I r q => h.run pins s σ H v u Q I r (i v σ H Q q)⟩

/-! ### names and constants -/
/-- the slot i -/
def slot : Ds → Nat → Option D
  | [], _ => none
  | x :: _, 0 => x
  | _ :: r, n + 1 => slot r n
theorem slot_some : ∀ {ρ : Ds} {i : Nat} {d : D}, slot ρ i = some d → ρ[i]? = some (some d)
  | [], _, _, h => by simp [slot] at h
  | x :: _, 0, _, h => by simp [slot] at h; simp [h]
  | _ :: r, n + 1, _, h => by simp [slot] at h; simpa using slot_some h
def dVar (i : Nat) : DE := fun ρ M Q => match slot ρ i with | some d => Q d M | none => False
def dC (d : D) : DE := fun _ M Q => Q d M
variable {G0 : Hp} {K : PySem.W.Frag}
theorem up_var {i : Nat} {σ : St} {H : Hp} {Q : VK} (h : up K G0 (dVar i) σ H Q) : tVar i σ H Q := by
  obtain ⟨ρ, M, G, Qd, s0, r, l, h, k⟩ := h
  unfold dVar at h
  split at h
  · rename_i d e
    obtain ⟨v, e1, e2⟩ := l.loc i d (slot_some e)
    exact ⟨v, e1, k d M G v H (Same.refl _) r e2 h⟩
  · exact h.elim
theorem de_var {i : Nat} {x : Str} {pos : Pos} (hN : X.N[i]? = some x) (hv : Vis X.env.scope x) (hd : (x == ("__debug__" : Str)) = false := by decide) (hcd : (x == ("__classdict__" : Str)) = false := by decide) : PE X (.Name x pos) (up K G0 (dVar i)) :=
  pe_mono (pe_var hN hv hd hcd) fun _ _ _ h => up_var h
/-- a value that stands apart from the heap -/
def flat : D → Option V
  | .non => some .non
  | .bl b => some (.bl b)
  | .int i => some (.int i)
  | .str x => some (.str x)
  | .ref a => some (.ref a)
  | .ty n => some (.ty n)
  | _ => none
theorem flat_rep {d : D} {v : V} {H : Hp} (h : flat d = some v) : Rep K H d v := by
  cases d <;> simp [flat] at h <;> (subst h; unfold Rep; rfl)
theorem up_const {d : D} {v : V} {σ : St} {H : Hp} {Q : VK} (f : flat d = some v) (h : up K G0 (dC d) σ H Q) : tC v σ H Q := by
  obtain ⟨ρ, M, G, Qd, s0, r, l, h, k⟩ := h
  exact k d M G v H (Same.refl _) r (flat_rep f) h
theorem de_const {d : D} {v : V} {e : Expr} (h : PE X e (tC v)) (f : flat d = some v) : PE X e (up K G0 (dC d)) := pe_mono h fun _ _ _ q => up_const f q
theorem de_int {i : Int} {j : Nat} {pos : Pos} : PE X (.Constant (.int i) j pos) (up K G0 (dC (.int i))) := de_const pe_int rfl
theorem de_bl {b : Bool} {j : Nat} {pos : Pos} : PE X (.Constant (.bool b) j pos) (up K G0 (dC (.bl b))) := de_const pe_bl rfl
theorem de_non {j : Nat} {pos : Pos} : PE X (.Constant .none j pos) (up K G0 (dC .non)) := de_const pe_non rfl
theorem de_str {x : Str} {j : Nat} {pos : Pos} : PE X (.Constant (.str x) j pos) (up K G0 (dC (.str x))) := de_const pe_str rfl

/-! ### operators -/
abbrev RD2 := D → D → Mm → DK → Prop
abbrev RD1 := D → Mm → DK → Prop
abbrev RDC := List D → Mm → DK → Prop
def up2 (K : PySem.W.Frag) (r : RD2) : R2 := fun x y H Q => ∃ M G a b Qd, RelH K M G H ∧ Rep K G a x ∧ Rep K G b y ∧ r a b M Qd ∧ ∀ d M' G' v H', Same G G' → RelH K M' G' H' → Rep K G' d v → Qd d M' → Q v H'
def up1 (K : PySem.W.Frag) (r : RD1) : V → Hp → VK → Prop := fun x H Q => ∃ M G a Qd, RelH K M G H ∧ Rep K G a x ∧ r a M Qd ∧ ∀ d M' G' v H', Same G G' → RelH K M' G' H' → Rep K G' d v → Qd d M' → Q v H'
def upC (K : PySem.W.Frag) (r : RDC) : List V → Hp → VK → Prop := fun xs H Q => ∃ M G as Qd, RelH K M G H ∧ Reps K G as xs ∧ r as M Qd ∧ ∀ d M' G' v H', Same G G' → RelH K M' G' H' → Rep K G' d v → Qd d M' → Q v H'
def dBin (r : RD2) (a b : DE) : DE := fun ρ M Q => a ρ M fun x M1 => b ρ M1 fun y M2 => r x y M2 Q
def dUn (r : RD1) (a : DE) : DE := fun ρ M Q => a ρ M fun x M1 => r x M1 Q
def dCall (r : RDC) (a : DA) : DE := fun ρ M Q => a ρ M fun xs M1 => r xs M1 Q
variable {da db : DE} {σ : St} {H : Hp}
theorem up_bin {r : RD2} {Q : VK} (h : up K G0 (dBin r da db) σ H Q) : tOp (up2 K r) (up K G0 da) (up K G0 db) σ H Q := by
  obtain ⟨ρ, M, G, Qd, s0, rl, l, h, k⟩ := h
  refine ⟨ρ, M, G, _, s0, rl, l, h, fun x M1 G1 v H1 s1 r1 p1 q1 => ?_⟩
  refine ⟨ρ, M1, G1, _, s0.trans s1, r1, l.mono s1, q1, fun y M2 G2 u H2 s2 r2 p2 q2 => ?_⟩
  exact ⟨M2, G2, x, y, Qd, r2, p1.mono s2, p2, q2, fun d M' G' w H' s3 r3 p3 q3 => k d M' G' w H' ((s1.trans s2).trans s3) r3 p3 q3⟩
theorem up_un {r : RD1} {Q : VK} (h : up K G0 (dUn r da) σ H Q) : tUn (up1 K r) (up K G0 da) σ H Q := by
  obtain ⟨ρ, M, G, Qd, s0, rl, l, h, k⟩ := h
  refine ⟨ρ, M, G, _, s0, rl, l, h, fun x M1 G1 v H1 s1 r1 p1 q1 => ?_⟩
  exact ⟨M1, G1, x, Qd, r1, p1, q1, fun d M' G' w H' s3 r3 p3 q3 => k d M' G' w H' (s1.trans s3) r3 p3 q3⟩
theorem up_call {r : RDC} {ta : DA} {Q : VK} (h : up K G0 (dCall r ta) σ H Q) : tCB (upC K r) (upA K G0 ta) σ H Q := by
  obtain ⟨ρ, M, G, Qd, s0, rl, l, h, k⟩ := h
  refine ⟨ρ, M, G, _, s0, rl, l, h, fun xs M1 G1 vs H1 s1 r1 p1 q1 => ?_⟩
  exact ⟨M1, G1, xs, Qd, r1, p1, q1, fun d M' G' w H' s3 r3 p3 q3 => k d M' G' w H' (s1.trans s3) r3 p3 q3⟩
theorem op_mono {f : Value → Value → Sem Value} {r r' : R2} (h : OpR X f r) (i : ∀ x y H Q, r' x y H Q → r x y H Q) : OpR X f r' := fun pins s σ H x y v u Q I r1 r2 q => h pins s σ H x y v u Q I r1 r2 (i x y H Q q)
theorem un_mono {f : Value → Sem Value} {r r' : V → Hp → VK → Prop} (h : UnR X f r) (i : ∀ x H Q, r' x H Q → r x H Q) : UnR X f r' := fun pins s σ H x v Q I r1 q => h pins s σ H x v Q I r1 (i x H Q q)
theorem call_mono {f : Value} {r r' : List V → Hp → VK → Prop} (h : CallR X f r) (i : ∀ xs H Q, r' xs H Q → r xs H Q) : CallR X f r' := fun pins s σ H xs us Q I r1 q => h pins s σ H xs us Q I r1 (i xs H Q q)
variable {a b : Expr} {pos : Pos}
theorem de_bin {op : Operator} {r : RD2} (ho : OpR X (binaryOp op) (up2 K r)) (ha : PE X a (up K G0 da)) (hb : PE X b (up K G0 db)) : PE X (.BinOp a op b pos) (up K G0 (dBin r da db)) :=
  pe_mono (pe_op ho ha hb) fun _ _ _ h => up_bin h
theorem de_cmp {op : CmpOp} {r : RD2} (ho : OpR X (compareOp op) (up2 K r)) (ha : PE X a (up K G0 da)) (hb : PE X b (up K G0 db)) (hm : behindInMarks op b = false) : PE X (.Compare a [op] [b] pos) (up K G0 (dBin r da db)) :=
  pe_mono (pe_cmpR ho ha hb hm) fun _ _ _ h => up_bin h
theorem de_un {op : UnaryOp} {r : RD1} (ho : UnR X (unaryOp op) (up1 K r)) (ha : PE X a (up K G0 da)) : PE X (.UnaryOp op a pos) (up K G0 (dUn r da)) :=
  pe_mono (pe_un ho ha) fun _ _ _ h => up_un h
/-- a value that is True or False, as a test -/
def dTest (de : DE) : DT := fun ρ M Q => de ρ M fun d M' => match d with | .bl b => Q b M' | _ => False
theorem up_test {dt : DE} {Q : Bool → Hp → Prop} (h : upT K G0 (dTest dt) σ H Q) : tTest (up K G0 dt) σ H Q := by
  obtain ⟨ρ, M, G, Qd, s0, rl, l, h, k⟩ := h
  refine ⟨ρ, M, G, _, s0, rl, l, h, fun d M1 G1 v H1 s1 r1 p1 q1 => ?_⟩
  cases d with
  | bl b => unfold Rep at p1; exact ⟨b, p1, k b M1 G1 H1 s1 r1 q1⟩
  | _ => exact False.elim q1
theorem dt_cmp {op : CmpOp} {r : RD2} (ho : OpR X (compareOp op) (up2 K r)) (ha : PE X a (up K G0 da)) (hb : PE X b (up K G0 db)) (hm : behindInMarks op b = false) : PT X (.Compare a [op] [b] pos) (upT K G0 (dTest (dBin r da db))) :=
  pt_mono (pt_cmpR ho ha hb hm) fun σ H Q h => by
    obtain ⟨ρ, M, G, Qd, s0, rl, l, h, k⟩ := up_test h
    exact up_bin ⟨ρ, M, G, Qd, s0, rl, l, h, k⟩
theorem dt_val {e : Expr} {de : DE} (h : PE X e (up K G0 de)) (he : ∀ whole, isTrue e X.env whole = (do let v ← whole; standAt e.pos; holding [v] (truthy v)) := by intro _; rfl) : PT X e (upT K G0 (dTest de)) :=
  pt_mono (pt_val h he) fun σ H Q q => up_test q

/-! ### and, or, not, if -/
variable {ta tb : DT} {rest : List Expr}
def dAnd (t u : DT) : DT := fun ρ M Q => t ρ M fun c M1 => if c = true then u ρ M1 Q else Q false M1
def dOr (t u : DT) : DT := fun ρ M Q => t ρ M fun c M1 => if c = true then Q true M1 else u ρ M1 Q
def dNot (t : DT) : DT := fun ρ M Q => t ρ M fun c M1 => Q (!c) M1
def dIfE (t : DT) (a b : DE) : DE := fun ρ M Q => t ρ M fun c M1 => if c = true then a ρ M1 Q else b ρ M1 Q
theorem dw_and1 (ha : PT X a (upT K G0 ta)) : PW X (.BoolOp .And [a] pos) (upT K G0 ta) := pw_and1 ha
theorem dw_or1 (ha : PT X a (upT K G0 ta)) : PW X (.BoolOp .Or [a] pos) (upT K G0 ta) := pw_or1 ha
theorem dw_and (ha : PT X a (upT K G0 ta)) (hb : PW X (.BoolOp .And (b :: rest) pos) (upT K G0 tb)) : PW X (.BoolOp .And (a :: b :: rest) pos) (upT K G0 (dAnd ta tb)) :=
  pw_mono (pw_and ha hb) fun σ H Q h => by
    obtain ⟨ρ, M, G, Qd, s0, rl, l, h, k⟩ := h
    refine ⟨ρ, M, G, _, s0, rl, l, h, fun c M1 G1 H1 s1 r1 q1 => ?_⟩
    cases c with
    | true => exact ⟨ρ, M1, G1, Qd, s0.trans s1, r1, l.mono s1, q1, fun b M' G' H' s2 r2 q2 => k b M' G' H' (s1.trans s2) r2 q2⟩
    | false => exact k false M1 G1 H1 s1 r1 q1
theorem dw_or (ha : PT X a (upT K G0 ta)) (hb : PW X (.BoolOp .Or (b :: rest) pos) (upT K G0 tb)) : PW X (.BoolOp .Or (a :: b :: rest) pos) (upT K G0 (dOr ta tb)) :=
  pw_mono (pw_or ha hb) fun σ H Q h => by
    obtain ⟨ρ, M, G, Qd, s0, rl, l, h, k⟩ := h
    refine ⟨ρ, M, G, _, s0, rl, l, h, fun c M1 G1 H1 s1 r1 q1 => ?_⟩
    cases c with
    | true => exact k true M1 G1 H1 s1 r1 q1
    | false => exact ⟨ρ, M1, G1, Qd, s0.trans s1, r1, l.mono s1, q1, fun b M' G' H' s2 r2 q2 => k b M' G' H' (s1.trans s2) r2 q2⟩
theorem dt_not (ha : PT X a (upT K G0 ta)) : PT X (.UnaryOp .Not a pos) (upT K G0 (dNot ta)) :=
  pt_mono (pt_not ha) fun σ H Q h => by
    obtain ⟨ρ, M, G, Qd, s0, rl, l, h, k⟩ := h
    exact ⟨ρ, M, G, _, s0, rl, l, h, fun c M1 G1 H1 s1 r1 q1 => k _ M1 G1 H1 s1 r1 q1⟩
theorem de_ife {c : Expr} (hc : PT X c (upT K G0 ta)) (ha : PE X a (up K G0 da)) (hb : PE X b (up K G0 db)) : PE X (.IfExp c a b pos) (up K G0 (dIfE ta da db)) :=
  pe_mono (pe_ifExp hc ha hb) fun σ H Q h => by
    obtain ⟨ρ, M, G, Qd, s0, rl, l, h, k⟩ := h
    refine ⟨ρ, M, G, _, s0, rl, l, h, fun c M1 G1 H1 s1 r1 q1 => ?_⟩
    cases c with
    | true => exact ⟨ρ, M1, G1, Qd, s0.trans s1, r1, l.mono s1, q1, fun d M' G' v H' s2 r2 p2 q2 => k d M' G' v H' (s1.trans s2) r2 p2 q2⟩
    | false => exact ⟨ρ, M1, G1, Qd, s0.trans s1, r1, l.mono s1, q1, fun d M' G' v H' s2 r2 p2 q2 => k d M' G' v H' (s1.trans s2) r2 p2 q2⟩
/-- not e as a value -/
theorem de_not (ha : PE X a (up K G0 da)) : PE X (.UnaryOp .Not a pos) (up K G0 (dUn (fun d M Q => match d with | .bl b => Q (.bl (!b)) M | _ => False) da)) :=
  pe_mono (pe_not ha) fun σ H Q h => by
    obtain ⟨ρ, M, G, Qd, s0, rl, l, h, k⟩ := h
    refine ⟨ρ, M, G, _, s0, rl, l, h, fun d M1 G1 v H1 s1 r1 p1 q1 => ?_⟩
    cases d with
    | bl b => unfold Rep at p1; exact ⟨b, p1, k (.bl !b) M1 G1 _ H1 s1 r1 (flat_rep rfl) q1⟩
    | _ => exact False.elim q1
/-- a and b, a or b as values: all but the last True or False -/
def dAndV (a b : DE) : DE := fun ρ M Q => a ρ M fun d M1 => match d with | .bl c => if c = true then b ρ M1 Q else Q (.bl false) M1 | _ => False
def dOrV (a b : DE) : DE := fun ρ M Q => a ρ M fun d M1 => match d with | .bl c => if c = true then Q (.bl true) M1 else b ρ M1 Q | _ => False
theorem de_one {op : BoolOp} (h : PE X a (up K G0 da)) : PE X (.BoolOp op [a] pos) (up K G0 da) := pe_one h
theorem de_and (ha : PE X a (up K G0 da)) (hb : PE X (.BoolOp .And (b :: rest) pos) (up K G0 db)) : PE X (.BoolOp .And (a :: b :: rest) pos) (up K G0 (dAndV da db)) :=
  pe_mono (pe_and ha hb) fun σ H Q h => by
    obtain ⟨ρ, M, G, Qd, s0, rl, l, h, k⟩ := h
    refine ⟨ρ, M, G, _, s0, rl, l, h, fun d M1 G1 v H1 s1 r1 p1 q1 => ?_⟩
    cases d with
    | bl c =>
      unfold Rep at p1
      refine ⟨c, p1, ?_⟩
      cases c with
      | true => exact ⟨ρ, M1, G1, Qd, s0.trans s1, r1, l.mono s1, q1, fun d M' G' v H' s2 r2 p2 q2 => k d M' G' v H' (s1.trans s2) r2 p2 q2⟩
      | false => exact k (.bl false) M1 G1 _ H1 s1 r1 (flat_rep rfl) q1
    | _ => exact False.elim q1
theorem de_or (ha : PE X a (up K G0 da)) (hb : PE X (.BoolOp .Or (b :: rest) pos) (up K G0 db)) : PE X (.BoolOp .Or (a :: b :: rest) pos) (up K G0 (dOrV da db)) :=
  pe_mono (pe_or ha hb) fun σ H Q h => by
    obtain ⟨ρ, M, G, Qd, s0, rl, l, h, k⟩ := h
    refine ⟨ρ, M, G, _, s0, rl, l, h, fun d M1 G1 v H1 s1 r1 p1 q1 => ?_⟩
    cases d with
    | bl c =>
      unfold Rep at p1
      refine ⟨c, p1, ?_⟩
      cases c with
      | true => exact k (.bl true) M1 G1 _ H1 s1 r1 (flat_rep rfl) q1
      | false => exact ⟨ρ, M1, G1, Qd, s0.trans s1, r1, l.mono s1, q1, fun d M' G' v H' s2 r2 p2 q2 => k d M' G' v H' (s1.trans s2) r2 p2 q2⟩
    | _ => exact False.elim q1

/-! ### argument lists, displays -/
variable {e : Expr} {es : List Expr} {de : DE} {ad : DA}
def dNil : DA := fun _ M Q => Q [] M
def dCons (a : DE) (r : DA) : DA := fun ρ M Q => a ρ M fun x M1 => r ρ M1 fun xs M2 => Q (x :: xs) M2
theorem da_nil : PA X [] (upA K G0 dNil) := pa_mono pa_nil fun σ H Q h => by
  obtain ⟨ρ, M, G, Qd, s0, rl, l, h, k⟩ := h
  exact k [] M G [] H (Same.refl _) rl Reps.nil h
theorem da_cons (ha : PE X e (up K G0 de)) (hr : PA X es (upA K G0 ad)) (hs : starEach (e :: es) X.env = (false, eval e X.env) :: starEach es X.env := by rfl) : PA X (e :: es) (upA K G0 (dCons de ad)) :=
  pa_mono (pa_cons ha hr hs) fun σ H Q h => by
    obtain ⟨ρ, M, G, Qd, s0, rl, l, h, k⟩ := h
    refine ⟨ρ, M, G, _, s0, rl, l, h, fun d M1 G1 v H1 s1 r1 p1 q1 => ?_⟩
    refine ⟨ρ, M1, G1, _, s0.trans s1, r1, l.mono s1, q1, fun ds M2 G2 vs H2 s2 r2 p2 q2 => ?_⟩
    exact k (d :: ds) M2 G2 (v :: vs) H2 (s1.trans s2) r2 (Reps.cons (p1.mono s2) p2) q2
def dTup (a : DA) : DE := fun ρ M Q => a ρ M fun xs M1 => xs.length ≤ sizeLine ∧ Q (.tup xs) M1
/-- a list that never changes; one that does -/
def dLst (a : DA) : DE := fun ρ M Q => a ρ M fun xs M1 => xs.length ≤ sizeLine ∧ Q (.lst xs) M1
def dLstM (a : DA) : DE := fun ρ M Q => a ρ M fun xs M1 => xs.length ≤ sizeLine ∧ ∀ p, M1 p = none → Q (.ref p) (M1.set p (.lst xs))
theorem de_tup {x1 : Nat} (h : PA X es (upA K G0 ad)) : PE X (.Tuple es x1 pos) (up K G0 (dTup ad)) :=
  pe_mono (pe_tup h) fun σ H Q h => by
    obtain ⟨ρ, M, G, Qd, s0, rl, l, h, k⟩ := h
    refine ⟨ρ, M, G, _, s0, rl, l, h, fun ds M1 G1 vs H1 s1 r1 p1 q1 => ⟨by rw [← p1.length]; exact q1.1, fun p hp => ?_⟩⟩
    have g := r1.free hp
    refine k _ M1 (upd G1 p (.tup vs)) _ _ (s1.trans (same_upd g)) (r1.laid hp _) ?_ q1.2
    unfold Rep
    exact ⟨p, vs, rfl, .inl (.inl upd_same), p1.mono (same_upd g)⟩
theorem de_lst (h : PA X es (upA K G0 ad)) : PE X (.List es pos) (up K G0 (dLst ad)) :=
  pe_mono (pe_lst h) fun σ H Q h => by
    obtain ⟨ρ, M, G, Qd, s0, rl, l, h, k⟩ := h
    refine ⟨ρ, M, G, _, s0, rl, l, h, fun ds M1 G1 vs H1 s1 r1 p1 q1 => ⟨by rw [← p1.length]; exact q1.1, fun p hp => ?_⟩⟩
    have g := r1.free hp
    refine k _ M1 (upd G1 p (.lst vs)) _ _ (s1.trans (same_upd g)) (r1.laid hp _) ?_ q1.2
    unfold Rep
    exact ⟨p, vs, rfl, upd_same, p1.mono (same_upd g)⟩
theorem de_lstM (h : PA X es (upA K G0 ad)) : PE X (.List es pos) (up K G0 (dLstM ad)) :=
  pe_mono (pe_lst h) fun σ H Q h => by
    obtain ⟨ρ, M, G, Qd, s0, rl, l, h, k⟩ := h
    refine ⟨ρ, M, G, _, s0, rl, l, h, fun ds M1 G1 vs H1 s1 r1 p1 q1 => ⟨by rw [← p1.length]; exact q1.1, fun p hp => ?_⟩⟩
    exact k (.ref p) _ G1 _ _ s1 (r1.newM (m := .lst ds) hp ⟨vs, upd_same, p1⟩) (flat_rep rfl) (q1.2 p (r1.freeM hp))

/-! ### statements -/
variable {st : Stmt} {sts : List Stmt} {ts us : DS}
def dNext : DS := fun D ρ M => D.nx ρ M
def dSeq (t u : DS) : DS := fun D ρ M => t { D with nx := u D } ρ M
def dIf (c : DT) (t u : DS) : DS := fun D ρ M => c ρ M fun b M1 => if b = true then t D ρ M1 else u D ρ M1
def dRet (e : DE) : DS := fun D ρ M => e ρ M D.rt
def dRetN : DS := fun D _ M => D.rt .non M
def dDrop (e : DE) : DS := fun D ρ M => e ρ M fun _ M1 => D.nx ρ M1
def dBreak : DS := fun D ρ M => D.bk ρ M
def dCont : DS := fun D ρ M => D.ct ρ M
def dNever : DS := fun _ _ _ => False
/-- from now on the object at a never changes: what is told of it in d -/
theorem ds_nil : PSs X [] (upS K G0 dNext) := pss_mono pss_nil fun D σ H h => by
  obtain ⟨ρ, M, G, Dd, s0, rl, l, h, k1, k2, k3, k4⟩ := h
  exact k1 ρ M G σ H (Same.refl _) rl l h
theorem ds_cons (h1 : PS X st (upS K G0 ts)) (h2 : PSs X sts (upS K G0 us)) : PSs X (st :: sts) (upS K G0 (dSeq ts us)) := pss_mono (pss_cons h1 h2) fun D σ H h => by
  obtain ⟨ρ, M, G, Dd, s0, rl, l, h, k1, k2, k3, k4⟩ := h
  exact ⟨ρ, M, G, _, s0, rl, l, h, fun ρ' M' G' σ' H' s r l' q => ⟨ρ', M', G', Dd, s0.trans s, r, l', q, fun _ _ _ _ _ z => k1 _ _ _ _ _ (s.trans z), fun _ _ _ _ _ z => k2 _ _ _ _ _ (s.trans z), fun _ _ _ _ _ z => k3 _ _ _ _ _ (s.trans z), fun _ _ _ _ _ z => k4 _ _ _ _ _ (s.trans z)⟩, k2, k3, k4⟩
theorem ds_one (h1 : PS X st (upS K G0 ts)) : PSs X [st] (upS K G0 ts) := pss_one h1
theorem ds_pass : PS X (.Pass pos) (upS K G0 dNext) := ps_mono ps_pass fun D σ H h => by
  obtain ⟨ρ, M, G, Dd, s0, rl, l, h, k1, k2, k3, k4⟩ := h
  exact k1 ρ M G σ H (Same.refl _) rl l h
theorem ds_break : PS X (.Break pos) (upS K G0 dBreak) := ps_mono ps_break fun D σ H h => by
  obtain ⟨ρ, M, G, Dd, s0, rl, l, h, k1, k2, k3, k4⟩ := h
  exact k3 ρ M G σ H (Same.refl _) rl l h
theorem ds_cont : PS X (.Continue pos) (upS K G0 dCont) := ps_mono ps_continue fun D σ H h => by
  obtain ⟨ρ, M, G, Dd, s0, rl, l, h, k1, k2, k3, k4⟩ := h
  exact k4 ρ M G σ H (Same.refl _) rl l h
theorem ds_if {c : Expr} {bl cl : List Stmt} (hc : PT X c (upT K G0 ta)) (ha : PSs X bl (upS K G0 ts)) (hb : PSs X cl (upS K G0 us)) : PS X (.If c bl cl pos) (upS K G0 (dIf ta ts us)) := ps_mono (ps_if hc ha hb) fun D σ H h => by
  obtain ⟨ρ, M, G, Dd, s0, rl, l, h, k1, k2, k3, k4⟩ := h
  refine ⟨ρ, M, G, _, s0, rl, l, h, fun b M1 G1 H1 s1 r1 q1 => ?_⟩
  cases b with
  | true => exact ⟨ρ, M1, G1, Dd, s0.trans s1, r1, l.mono s1, q1, fun _ _ _ _ _ z => k1 _ _ _ _ _ (s1.trans z), fun _ _ _ _ _ z => k2 _ _ _ _ _ (s1.trans z), fun _ _ _ _ _ z => k3 _ _ _ _ _ (s1.trans z), fun _ _ _ _ _ z => k4 _ _ _ _ _ (s1.trans z)⟩
  | false => exact ⟨ρ, M1, G1, Dd, s0.trans s1, r1, l.mono s1, q1, fun _ _ _ _ _ z => k1 _ _ _ _ _ (s1.trans z), fun _ _ _ _ _ z => k2 _ _ _ _ _ (s1.trans z), fun _ _ _ _ _ z => k3 _ _ _ _ _ (s1.trans z), fun _ _ _ _ _ z => k4 _ _ _ _ _ (s1.trans z)⟩
theorem ds_ret (he : PE X e (up K G0 de)) : PS X (.Return (some e) pos) (upS K G0 (dRet de)) := ps_mono (ps_ret he) fun D σ H h => by
  obtain ⟨ρ, M, G, Dd, s0, rl, l, h, k1, k2, k3, k4⟩ := h
  exact ⟨ρ, M, G, _, s0, rl, l, h, fun d M' G' v H' s r p q => k2 d M' G' v H' s r p q⟩
theorem ds_retN : PS X (.Return none pos) (upS K G0 dRetN) := ps_mono ps_retN fun D σ H h => by
  obtain ⟨ρ, M, G, Dd, s0, rl, l, h, k1, k2, k3, k4⟩ := h
  exact k2 .non M G .non H (Same.refl _) rl (flat_rep rfl) h
theorem ds_expr (he : PE X e (up K G0 de)) (hs : swapsWith e none pos.line X.env = pure false := by rfl) : PS X (.Expr e pos) (upS K G0 (dDrop de)) := ps_mono (ps_expr he hs) fun D σ H h => by
  obtain ⟨ρ, M, G, Dd, s0, rl, l, h, k1, k2, k3, k4⟩ := h
  exact ⟨ρ, M, G, _, s0, rl, l, h, fun d M' G' v H' s r p q => k1 ρ M' G' σ H' s r (l.mono s) q⟩

/-! ### targets, stores -/
abbrev DGs := List D → Ds → Mm → (Ds → Mm → Prop) → Prop
def upGs (K : PySem.W.Frag) (G0 : Hp) (dg : DGs) : TGs := fun vs σ H Q => ∃ ρ M G ds Qd, Same G0 G ∧ RelH K M G H ∧ Locs K ρ G σ ∧ Reps K G ds vs ∧ dg ds ρ M Qd ∧ ∀ ρ' M' G' σ' H', Same G G' → RelH K M' G' H' → Locs K ρ' G' σ' → Qd ρ' M' → Q σ' H'
def dgName (i : Nat) : DG := fun d ρ M Q => Q (ρ.set i (some d)) M
def dgNil : DGs := fun ds ρ M Q => ds = [] ∧ Q ρ M
def dgCons (g : DG) (r : DGs) : DGs := fun ds ρ M Q => match ds with | [] => False | d :: ds => g d ρ M fun ρ1 M1 => r ds ρ1 M1 Q
def dgTup (n : Nat) (g : DGs) : DG := fun d ρ M Q => match d with | .tup xs => xs.length = n ∧ g xs ρ M Q | _ => False
variable {tg : Expr} {dg : DG} {dgs : DGs}
theorem pgs_mono {es : List Expr} {t t' : TGs} (h : PGs X es t) (i : ∀ vs σ H Q, t' vs σ H Q → t vs σ H Q) : PGs X es t' := ⟨fun pins s σ H v u Q I r q => h.run pins s σ H v u Q I r (i v σ H Q q)⟩
theorem dg_name {i : Nat} {x : Str} (hN : X.N.Nodup) (hi : X.N[i]? = some x) (hx : Loc X.env.scope x) (hf : X.fn x = true ∨ X.env.scope.names.lookup x = some .local := by first | exact .inl rfl | exact .inr rfl | assumption) : PG X (.Name x pos) (upG K G0 (dgName i)) :=
  pg_mono (pg_name hN hi hx hf) fun v σ H Q h => by
    obtain ⟨ρ, M, G, d, Qd, s0, rl, l, p, h, k⟩ := h
    exact k _ M G _ H (Same.refl _) rl (l.set i p) h
theorem dgs_nil : PGs X [] (upGs K G0 dgNil) := pgs_mono pgs_nil fun v σ H Q h => by
  obtain ⟨ρ, M, G, ds, Qd, s0, rl, l, p, ⟨e, h⟩, k⟩ := h
  subst e
  unfold Reps at p
  exact ⟨p, k ρ M G σ H (Same.refl _) rl l h⟩
theorem dgs_cons {e : Expr} {es : List Expr} (h1 : PG X e (upG K G0 dg)) (h2 : PGs X es (upGs K G0 dgs))
    (hs : (assignEach (e :: es) X.env).map (·.2) = assign e X.env :: (assignEach es X.env).map (·.2) := by rfl) : PGs X (e :: es) (upGs K G0 (dgCons dg dgs)) := pgs_mono (pgs_cons h1 h2 hs) fun v σ H Q h => by
  obtain ⟨ρ, M, G, ds, Qd, s0, rl, l, p, h, k⟩ := h
  cases ds with
  | nil => exact False.elim h
  | cons d ds =>
    unfold Reps at p
    obtain ⟨w, ws, e1, p1, p2⟩ := p
    refine ⟨w, ws, e1, ρ, M, G, d, _, s0, rl, l, p1, h, fun ρ1 M1 G1 σ1 H1 s1 r1 l1 q1 => ?_⟩
    exact ⟨ρ1, M1, G1, ds, Qd, s0.trans s1, r1, l1, p2.mono s1, q1, fun ρ' M' G' σ' H' s r l q => k ρ' M' G' σ' H' (s1.trans s) r l q⟩
theorem dg_tup {es : List Expr} {k : Nat} {n : Nat} (hK : X.K = K) (hc : X.calm = true) (h : PGs X es (upGs K G0 dgs))
    (hn : (assignEach es X.env).length = n := by rfl) (hst : (assignEach es X.env).findIdx? (·.1) = none := by rfl) : PG X (.Tuple es k pos) (upG K G0 (dgTup n dgs)) := pg_mono (pg_tup hc h hn hst) fun v σ H Q h => by
  obtain ⟨ρ, M, G, d, Qd, s0, rl, l, p, h, k⟩ := h
  subst hK
  cases d with
  | tup xs =>
    unfold Rep at p
    obtain ⟨a, vs, e, hq, p⟩ := p
    exact ⟨a, vs, e, sameT rl.sub hq, by rw [← p.length]; exact h.1, ρ, M, G, xs, Qd, s0, rl, l, p, h.2, k⟩
  | _ => exact False.elim h
def dAsg (e : DE) (g : DG) : DS := fun D ρ M => e ρ M fun x M1 => g x ρ M1 D.nx
theorem up_asg {D : Ends} (h : upS K G0 (dAsg de dg) D σ H) : tAsg (up K G0 de) (upG K G0 dg) D σ H := by
  obtain ⟨ρ, M, G, Dd, s0, rl, l, h, k1, k2, k3, k4⟩ := h
  refine ⟨ρ, M, G, _, s0, rl, l, h, fun d M1 G1 v H1 s1 r1 p1 q1 => ?_⟩
  exact ⟨ρ, M1, G1, d, Dd.nx, s0.trans s1, r1, l.mono s1, p1, q1, fun ρ' M' G' σ' H' s r l q => k1 ρ' M' G' σ' H' (s1.trans s) r l q⟩
theorem ds_asg (he : PE X e (up K G0 de)) (hg : PG X tg (upG K G0 dg)) (hs : swapsWithSole [tg] e pos.line X.env = pure false := by rfl) (hw : swappedStores [tg] e X.env = pure none := by rfl)
    (h1 : (assignEach [tg] X.env).map (·.2) = [assign tg X.env] := by rfl) : PS X (.Assign [tg] e pos) (upS K G0 (dAsg de dg)) := ps_mono (ps_asg he hg hs hw h1) fun D σ H h => up_asg h
theorem ds_set {i : Nat} {x : Str} {pos' : Pos} (hN : X.N.Nodup) (hi : X.N[i]? = some x) (hx : Loc X.env.scope x) (he : PE X e (up K G0 de)) (hs : swapsWith e (some (.Name x pos')) pos.line X.env = pure false := by rfl) (hf : X.fn x = true ∨ X.env.scope.names.lookup x = some .local := by first | exact .inl rfl | exact .inr rfl | assumption) :
    PS X (.Assign [.Name x pos'] e pos) (upS K G0 (dAsg de (dgName i))) := ps_mono (ps_set hN hi hx he hs hf) fun D σ H h => by
  obtain ⟨ρ, M, G, Dd, s0, rl, l, h, k1, k2, k3, k4⟩ := h
  refine ⟨ρ, M, G, _, s0, rl, l, h, fun d M1 G1 v H1 s1 r1 p1 q1 => ?_⟩
  exact k1 _ M1 G1 _ H1 s1 r1 ((l.mono s1).set i p1) q1
/-- a, b = x, y; a, b, c = x, y, z with plain local names -/
def dPar (js : List Nat) (a : DA) : DS := fun D ρ M => a ρ M fun ds M1 => ds.length = js.length ∧ D.nx ((js.zip ds).foldl (fun r p => r.set p.1 (some p.2)) ρ) M1
theorem ds_par {i j : Nat} {x y : Str} {px py pt : Pos} {kt k2 : Nat} {pt2 : Pos} (hc : X.calm = true) (hN : X.N.Nodup) (hi : X.N[i]? = some x) (hj : X.N[j]? = some y) (hij : i ≠ j)
    (hx : X.env.scope.names.lookup x = some .local) (hy : X.env.scope.names.lookup y = some .local) (ha : PA X [a, b] (upA K G0 ad))
    (hw : swappedStores [.Tuple [.Name x px, .Name y py] kt pt] (.Tuple [a, b] k2 pt2) X.env = pure (some [x, y]))
    (hs : swapsWithSole [.Tuple [.Name x px, .Name y py] kt pt] (.Tuple [a, b] k2 pt2) pos.line X.env = pure false := by rfl) :
    PS X (.Assign [.Tuple [.Name x px, .Name y py] kt pt] (.Tuple [a, b] k2 pt2) pos) (upS K G0 (dPar [i, j] ad)) := ps_mono (ps_par hc hN hi hj hij hx hy ha hw hs) fun D σ H h => by
  obtain ⟨ρ, M, G, Dd, s0, rl, l, h, k1, k2, k3, k4⟩ := h
  refine ⟨ρ, M, G, _, s0, rl, l, h, fun ds M1 G1 vs H1 s1 r1 p1 q1 => ?_⟩
  obtain ⟨hl, q⟩ := q1
  match ds, hl with
  | [d1, d2], _ =>
    unfold Reps at p1
    obtain ⟨v1, w1, e1, p1, p2⟩ := p1
    unfold Reps at p2
    obtain ⟨v2, w2, e2, p2, p3⟩ := p2
    unfold Reps at p3
    subst e1 e2 p3
    exact ⟨v1, v2, rfl, k1 _ M1 G1 _ H1 s1 r1 (((l.mono s1).set i p1).set j p2) q⟩
end
end Dq
/-! The deep layer, part 2: defs and their calls, raise, loops. -/
namespace Dq
open PySem PySem.Spec PyProof.Rows L2
section
variable {X : Cx} {G0 : Hp} {K : PySem.W.Frag} {a b c e : Expr} {es : List Expr} {pos : Pos} {da db de : DE} {ad : DA} {dg : DG} {ts us : DS} {tg : Expr}
/-- a, b, c = x, y, z with plain local names -/
theorem ds_par3 {i j l : Nat} {x y z : Str} {px py pz pt : Pos} {kt k2 : Nat} {pt2 : Pos} (hc : X.calm = true) (hN : X.N.Nodup) (hi : X.N[i]? = some x) (hj : X.N[j]? = some y) (hl : X.N[l]? = some z) (hij : i ≠ j) (hil : i ≠ l) (hjl : j ≠ l)
    (hx : X.env.scope.names.lookup x = some .local) (hy : X.env.scope.names.lookup y = some .local) (hz : X.env.scope.names.lookup z = some .local) (ha : PA X [a, b, c] (upA K G0 ad))
    (hw : swappedStores [.Tuple [.Name x px, .Name y py, .Name z pz] kt pt] (.Tuple [a, b, c] k2 pt2) X.env = pure (some [x, y, z]))
    (hs : swapsWithSole [.Tuple [.Name x px, .Name y py, .Name z pz] kt pt] (.Tuple [a, b, c] k2 pt2) pos.line X.env = pure false := by rfl) :
    PS X (.Assign [.Tuple [.Name x px, .Name y py, .Name z pz] kt pt] (.Tuple [a, b, c] k2 pt2) pos) (upS K G0 (dPar [i, j, l] ad)) := ps_mono (ps_par3 hc hN hi hj hl hij hil hjl hx hy hz ha hw hs) fun D σ H h => by
  obtain ⟨ρ, M, G, Dd, s0, rl, lo, h, k1, k2, k3, k4⟩ := h
  refine ⟨ρ, M, G, _, s0, rl, lo, h, fun ds M1 G1 vs H1 s1 r1 p1 q1 => ?_⟩
  obtain ⟨hl, q⟩ := q1
  match ds, hl with
  | [d1, d2, d3], _ =>
    unfold Reps at p1
    obtain ⟨v1, w1, e1, p1, p2⟩ := p1
    unfold Reps at p2
    obtain ⟨v2, w2, e2, p2, p3⟩ := p2
    unfold Reps at p3
    obtain ⟨v3, w3, e3, p3, p4⟩ := p3
    unfold Reps at p4
    subst e1 e2 e3 p4
    exact ⟨v1, v2, v3, rfl, k1 _ M1 G1 _ H1 s1 r1 ((((lo.mono s1).set i p1).set j p2).set l p3) q⟩

/-! ### defs -/
/-- a def's promise: arguments, what changes, the wanted end, the wanted exception -/
abbrev DSp := List D → Mm → DK → DX → Prop
def upF (K : PySem.W.Frag) (sp : DSp) : Sp := fun vs H Q E => ∃ M G ds Qd Ed, RelH K M G H ∧ Reps K G ds vs ∧ sp ds M Qd Ed ∧
  (∀ d M' G' v H', Same G G' → RelH K M' G' H' → Rep K G' d v → Qd d M' → Q v H') ∧
  (∀ C fs M' G' d H', Same G G' → RelH K M' G' H' → XdR K G' H' d fs → Ed C fs M' → E (.ref C) d H')
/-- room, and no text of an object is being made -/
structure RoomG (k : Nat) (A : Around) : Prop where
  room : Room k A
  gd : A.guards = some []
theorem RoomG.mono {j k : Nat} {A : Around} (r : RoomG k A) (h : j ≤ k) : RoomG j A := ⟨r.room.mono h, r.gd⟩
theorem RoomG.deeper {k : Nat} {A : Around} (r : RoomG (k + 1) A) (env : Env) : RoomG k (A.deeper env) := ⟨r.room.deeper env, r.gd⟩
structure FnD (P : Program) (w : World) (K : PySem.W.Frag) (mg : Str → Option Value) (base : Heap) (k : Nat) (f : Addr) (fd : FuncData) (ps : List Str) (sp : DSp) : Prop where
  len : ∀ ds M Q E, sp ds M Q E → ds.length = ps.length
  run : ∀ (A : Around) (outer : List Env) (s : Shared) (H : Hp) (args : Args) (us : List Value) (vs : List V) (Q : VK) (E : XK), RoomG k A → Env0 P w K mg base A outer s H →
    BindsTo s fd args (ps.zip us) → Vals vs us → upF K sp vs H Q E → codeAny (model P w) A (.call (.ref f) args) (CR (L2.CX P w) outer P w H s Q E) s
theorem FnD.mono {P : Program} {w : World} {K : PySem.W.Frag} {mg : Str → Option Value} {base : Heap} {j k : Nat} {f : Addr} {fd : FuncData} {ps : List Str} {sp : DSp} (F : FnD P w K mg base j f fd ps sp) (h : j ≤ k) : FnD P w K mg base k f fd ps sp :=
  ⟨F.len, fun A outer s H args us vs Q E hr => F.run A outer s H args us vs Q E (hr.mono h)⟩
theorem FnD.imp {P : Program} {w : World} {K : PySem.W.Frag} {mg : Str → Option Value} {base : Heap} {k : Nat} {f : Addr} {fd : FuncData} {ps : List Str} {sp sp' : DSp} (F : FnD P w K mg base k f fd ps sp) (h : ∀ ds M Q E, sp' ds M Q E → sp ds M Q E) : FnD P w K mg base k f fd ps sp' :=
  ⟨fun ds M Q E q => F.len ds M Q E (h _ _ _ _ q), fun A outer s H args us vs Q E hr he hb hv hs => F.run A outer s H args us vs Q E hr he hb hv (let ⟨M, G, ds, Qd, Ed, h1, h2, h3, h4⟩ := hs; ⟨M, G, ds, Qd, Ed, h1, h2, h _ _ _ _ h3, h4⟩)⟩
def dstart (N : List Str) (ds : List D) : Ds := ds.map some ++ List.replicate (N.length - ds.length) none
theorem locs_start {N : List Str} {G : Hp} {ds : List D} {vs : List V} (h : Reps K G ds vs) : Locs K (dstart N ds) G (L2.start N vs) := by
  have hl := h.length
  refine ⟨by unfold dstart L2.start; simp [hl], fun i d e => ?_⟩
  unfold dstart at e
  unfold L2.start
  by_cases hi : i < ds.length
  · rw [List.getElem?_append_left (by simpa using hi), List.getElem?_map] at e
    cases q : ds[i]? with
    | none => rw [q] at e; cases e
    | some d' =>
      rw [q] at e
      cases e
      obtain ⟨v, e1, e2⟩ := h.get q
      refine ⟨v, ?_, e2⟩
      rw [List.getElem?_append_left (by rw [List.length_map, ← hl]; exact hi), List.getElem?_map, e1]
      rfl
  · rw [List.getElem?_append_right (by simpa using hi), List.getElem?_replicate] at e
    split at e <;> cases e
/-- THE RULE of a def: its body, read; g: what stood at the call -/
theorem fnD_of {P : Program} {w : World} {K : PySem.W.Frag} {mg : Str → Option Value} {base : Heap} {x qual : Str} {st : Stmt} {f : Addr} {fd : FuncData} {N ps : List Str} {k : Nat} {sp : DSp} (F : Fun K x qual st f fd) (S : FnScope N ps (defScope st))
    (len : ∀ ds M Q E, sp ds M Q E → ds.length = ps.length) (B : DXS → DS)
    (der : ∀ (cdv : Value) (A : Around) (outer : List Env) (s : Shared) (H : Hp) (E : XK) (G0 : Hp) (Wd : DXS), RoomG k (A.deeper (envOfC qual (defScope st) s.heap.objs.size f cdv)) →
      Takes (cxOf (L2.CX P w) P w K mg base N qual (defScope st) f cdv A outer s H E) (upW K G0 Wd) →
      PassesOwn (model P w) (cxOf (L2.CX P w) P w K mg base N qual (defScope st) f cdv A outer s H E).A (cxOf (L2.CX P w) P w K mg base N qual (defScope st) f cdv A outer s H E).env (cxOf (L2.CX P w) P w K mg base N qual (defScope st) f cdv A outer s H E).xe → PSs (cxOf (L2.CX P w) P w K mg base N qual (defScope st) f cdv A outer s H E) (defBody st) (upS K G0 (B Wd)))
    (pure : ∀ ds M Q E, sp ds M Q E → B (fun C fs _ M' => E C fs M') { nx := fun _ M' => Q .non M', rt := Q } (dstart N ds) M) : FnD P w K mg base (k + 1) f fd ps sp := by
  obtain ⟨oc, od, kV, doc, pm, an, cdv, ct, osl, rfl, lk, hcd⟩ := F.ex
  refine ⟨len, ?_⟩
  intro A outer s H args uu vs Q E hr e0 hb rv ⟨M, G, ds, Qd, Ed, rl, rp, hsp, kq, ke⟩
  have hl : vs.length = ps.length := rp.length.symm.trans (len _ _ _ _ hsp)
  have hin : K.In s.heap := e0.mod.kin.keeps fun b o z => (e0.bs b o z).1
  have lim := e0.mod.nolimit.keeps (h' := s.heap) fun b o z => (e0.bs b o z).1
  have knd : ∀ y ∈ ps.zip uu, (defScope st).names.lookup y.1 = some .local ∨ ((defScope st).names.lookup y.1 = some .cell ∧ ((cellsFrom (s.heap.objs.size + 1) (defScope st).names []).lookup y.1).isSome = true) := by
    rintro ⟨n, v⟩ hy
    exact (S.par n (List.of_mem_zip hy).1).imp (fun q => q) fun q => ⟨q, PySem.W.cellsFrom_some _ _ _ (.inl q)⟩
  refine codeAny_call_function hr.room.depth (hin _ _ lk) rfl S.co S.gen rfl (PySem.W.codeRec_of hin hcd) (hb _ _ _ _ ?_)
  refine wpAny_newFunctionEnv_cells S.kind knd fun env he s1 xx => ?_
  subst he
  refine ⟨lim.keeps xx.toInCall.keep, codeAny_func ?_⟩
  have I := inv_start (CX := L2.CX P w) (E := E) (P := P) (w := w) (K := K) (mg := mg) (base := base) S hr.room.hd e0 hl rv xx
  have tk := takes_of (X := cxOf (L2.CX P w) P w K mg base N qual (defScope st) f cdv A outer s H E) (E := E) rfl rfl rfl rfl
  have tk2 : Takes (cxOf (L2.CX P w) P w K mg base N qual (defScope st) f cdv A outer s H E) (upW K G fun C fs _ M' => Ed C fs M') := tk.imp fun c d σ H' ⟨C, fs, ρ, M', G', s1, r1, _, e1, x1, q1⟩ => by
    subst e1
    exact ke C fs M' G' d H' s1 r1 x1 q1
  refine wpAny_mono ((der cdv A outer s H E G _ (hr.deeper _) tk2 (passes_of rfl)).run [] s1 _ H { nx := fun _ H' => Q .non H', rt := Q } I ⟨dstart N ds, M, G, _, Same.refl _, rl, locs_start rp, pure _ _ _ _ hsp, ?_, ?_, ?_, ?_⟩) (fun fl s' hs => ?_) fun e s' hs => hs
  · exact fun ρ' M' G' σ' H' s r l q => kq .non M' G' .non H' s r (flat_rep rfl) q
  · exact fun d M' G' v H' s r p q => kq d M' G' v H' s r p q
  · exact fun _ _ _ _ _ _ _ _ q => q
  · exact fun _ _ _ _ _ _ _ _ q => q
  · cases fl with
    | ret u =>
      obtain ⟨v, σ', H', J, rv', q⟩ := hs
      exact ⟨v, H', J.os, J.bare, J.base, J.hok, rv', q⟩
    | next =>
      obtain ⟨σ', H', J, q⟩ := hs
      exact ⟨.non, H', J.os, J.bare, J.base, J.hok, rfl, q⟩
    | brk => obtain ⟨_, _, _, q⟩ := hs; exact q.elim
    | cont => obtain ⟨_, _, _, q⟩ := hs; exact q.elim

/-! ### calls -/
def dCallF (sp : DSp) (Wd : DXS) (a : DA) : DE := fun ρ M Q => a ρ M fun ds M1 => sp ds M1 Q fun C fs M' => Wd C fs ρ M'
variable {k : Nat} {f : Addr} {fd : FuncData} {ps : List Str} {sp : DSp} {Wd : DXS} {x : Str} {p : Pos}
theorem run_fnD {pins : List (Addr × Obj)} {σ : St} {H : Hp} {s : Shared} {Q : VK} {uu : List Value} {vs : List V} {W : WX} (F : FnD X.prog X.w X.K X.mg X.base k f fd ps sp) (hr : RoomG k X.A) (hb : Binds X.K fd ps []) (tk : Takes X W)
    (I : Inv X pins σ H s) (r : Vals vs uu) (h : upF X.K sp vs H Q fun cls d H' => W cls d σ H') : wpAny (model X.prog X.w) X.A (call (.ref f) uu) (EP X pins σ Q) X.xe s := by
  have hl : uu.length = ps.length := by
    obtain ⟨M, G, ds, Qd, Ed, rl, rp, hsp, _⟩ := id h
    rw [← r.length, ← rp.length]
    exact F.len _ _ _ _ hsp
  have bb := hb s uu I.kIn (by rw [List.append_nil]; exact hl)
  rw [List.append_nil] at bb
  refine wpAny_call (codeAny_mono (F.run X.A X.stack s H ⟨uu, []⟩ uu vs Q _ hr I.env0 bb r h) fun res s' hq => ?_)
  match res, hq with
  | .error e, hq => exact tk e s' (XE.of_call I (fun _ _ _ z => z) hq)
  | .ok (.ret u), hq => exact I.after hq
theorem up_callF {σ : St} {H : Hp} {Q : VK} {ta : TA} (hK : X.K = K) (h : up K G0 (dCallF sp Wd ad) σ H Q) : upA K G0 ad σ H fun vs H1 => upF X.K sp vs H1 Q fun cls d H' => upW K G0 Wd cls d σ H' := by
  subst hK
  obtain ⟨ρ, M, G, Qd, s0, rl, l, h, kk⟩ := h
  refine ⟨ρ, M, G, _, s0, rl, l, h, fun ds M1 G1 vs H1 s1 r1 p1 q1 => ?_⟩
  refine ⟨M1, G1, ds, Qd, _, r1, p1, q1, fun d M' G' v H' s2 r2 p2 q2 => kk d M' G' v H' (s1.trans s2) r2 p2 q2, fun C fs M' G' d H' s2 r2 x2 q2 => ?_⟩
  exact ⟨C, fs, ρ, M', G', (s0.trans s1).trans s2, r2, (l.mono s1).mono s2, rfl, x2, q2⟩
theorem de_call (F : FnD X.prog X.w X.K X.mg X.base k f fd ps sp) (hr : RoomG k X.A) (hg : Gl X x) (hm : X.mg x = some (.ref f)) (hk : PySem.W.keepIn X.K (.ref f) = true) (hb : Binds X.K fd ps []) (tk : Takes X (upW X.K G0 Wd))
    (ha : PA X (e :: es) (upA X.K G0 ad)) (hdb : (x == ("__debug__" : Str)) = false := by decide) (he : starEach (e :: es) X.env = (false, eval e X.env) :: starEach es X.env := by rfl) (hpl : (backTo pos (starEach es X.env)).any (·.1) = false := by rfl) :
    PE X (.Call (.Name x p) (e :: es) [] pos) (up X.K G0 (dCallF sp Wd ad)) := by
  refine ⟨fun pins s σ H Q I h => wpAny_Call_Name_kw (ld_glob I hg hm ?_ hdb)⟩
  refine PySem.W.callWith_K (h₀ := X.base) I.ok.mod.kin hk (thn (ha.run pos pins s σ H _ I (up_callF (ta := tNil) rfl h)) ?_) he hpl
  rintro uu s1 ⟨vs, H1, I1, r, q⟩
  exact ⟨I1.kIn, run_fnD F hr hb tk I1 r q⟩
theorem de_call0 (F : FnD X.prog X.w X.K X.mg X.base k f fd ps sp) (hr : RoomG k X.A) (hg : Gl X x) (hm : X.mg x = some (.ref f)) (hk : PySem.W.keepIn X.K (.ref f) = true) (hb : Binds X.K fd ps []) (tk : Takes X (upW X.K G0 Wd))
    (hdb : (x == ("__debug__" : Str)) = false := by decide) : PE X (.Call (.Name x p) [] [] pos) (up X.K G0 (dCallF sp Wd dNil)) := by
  refine ⟨fun pins s σ H Q I h => wpAny_Call_Name_kw (ld_glob I hg hm ?_ hdb)⟩
  refine PySem.W.callWith_K0 I.kIn hk (run_fnD (uu := []) F hr hb tk I .nil (W := upW X.K G0 Wd) ?_)
  obtain ⟨ρ, M, G, Qd, s0, rl, l, h, kk⟩ := h
  refine ⟨M, G, [], Qd, _, rl, Reps.nil, h, kk, fun C fs M' G' d H' s2 r2 x2 q2 => ?_⟩
  exact ⟨C, fs, ρ, M', G', s0.trans s2, r2, l.mono s2, rfl, x2, q2⟩
/-- built-ins by their names -/
theorem de_callB {id : String} {r : RDC} (hc : CallR X (.builtin id) (upC K r)) (hg : Gl X x) (hm : X.mg x = none) (hv : bootBuiltins x = some (.builtin id)) (ha : PA X (e :: es) (upA K G0 ad)) (hn : x ≠ "__name__" := by decide) (hdb : (x == ("__debug__" : Str)) = false := by decide)
    (he : starEach (e :: es) X.env = (false, eval e X.env) :: starEach es X.env := by rfl) (hpl : (backTo pos (starEach es X.env)).any (·.1) = false := by rfl) : PE X (.Call (.Name x p) (e :: es) [] pos) (up K G0 (dCall r ad)) :=
  pe_mono (pe_callB hc hg hm hv ha hn hdb he hpl) fun σ H Q h => up_call h
theorem de_callTy {T : String} {r : RDC} (hc : CallR X (.type T) (upC K r)) (hg : Gl X x) (hm : X.mg x = none) (hv : bootBuiltins x = some (.type T)) (ha : PA X (e :: es) (upA K G0 ad)) (hn : x ≠ "__name__" := by decide) (hdb : (x == ("__debug__" : Str)) = false := by decide)
    (he : starEach (e :: es) X.env = (false, eval e X.env) :: starEach es X.env := by rfl) (hpl : (backTo pos (starEach es X.env)).any (·.1) = false := by rfl) : PE X (.Call (.Name x p) (e :: es) [] pos) (up K G0 (dCall r ad)) :=
  pe_mono (pe_callTy hc hg hm hv ha hn hdb he hpl) fun σ H Q h => up_call h

/-! ### for -/
abbrev DI := Ds → Mm → (List D → Mm → Prop) → Prop
/-- the iterator J walks the items -/
structure WalksD (K : PySem.W.Frag) (J : It) (xs : List D) (G : Hp) : Prop where
  go : ∀ i H, Same G H → i < xs.length → J.go i H
  stop : ∀ i H, Same G H → xs.length ≤ i → J.stop i H
  yld : ∀ i H x H' d, Same G H → xs[i]? = some d → J.yld i H x H' → (H' = H ∧ Rep K G d x) ∨ ∃ p o, H p = none ∧ H' = upd H p o ∧ ∀ G1, Same G G1 → G1 p = none → Rep K (upd G1 p o) d x
def upI (K : PySem.W.Frag) (G0 : Hp) (di : DI) : TI := fun σ H R => ∃ ρ M G Qd, Same G0 G ∧ RelH K M G H ∧ Locs K ρ G σ ∧ di ρ M Qd ∧ ∀ xs M' G' H' J, Same G G' → RelH K M' G' H' → WalksD K J xs G' → Qd xs M' → R J H'
def dForL (g : DG) (b : DS) : List D → DS
  | [], D, ρ, M => D.nx ρ M
  | x :: xs, D, ρ, M => g x ρ M fun ρ1 M1 => b { D with nx := dForL g b xs D, ct := dForL g b xs D, bk := D.nx } ρ1 M1
def dFor (di : DI) (g : DG) (b : DS) : DS := fun D ρ M => di ρ M fun xs M1 => dForL g b xs D ρ M1
theorem up_for {di : DI} {D : Ends} {σ : St} {H : Hp} (h : upS K G0 (dFor di dg ts) D σ H) : tFor (upI K G0 di) (upG K G0 dg) (upS K G0 ts) D σ H := by
  obtain ⟨ρ, M, G, Dd, s0, rl, l, h, k1, k2, k3, k4⟩ := h
  refine ⟨ρ, M, G, _, s0, rl, l, h, fun xs M1 G1 H1 J s1 r1 wk q1 => ?_⟩
  refine ⟨fun i m σ H => ∃ ρ M G2, Same G1 G2 ∧ RelH K M G2 H ∧ Locs K ρ G2 σ ∧ dForL dg ts (xs.drop i) Dd ρ M ∧ m = xs.length - i ∧ i ≤ xs.length, ⟨xs.length, ρ, M1, G1, Same.refl _, r1, l.mono s1, q1, rfl, Nat.zero_le _⟩, ?_⟩
  rintro i m σ2 H2 ⟨ρ2, M2, G2, s2, r2, l2, q2, rfl, hi⟩
  rcases Nat.lt_or_ge i xs.length with hlt | hge
  · refine .inr ⟨wk.go i H2 (s2.trans r2.sub) hlt, fun σ' H' => ∃ ρ M G3, Same G1 G3 ∧ RelH K M G3 H' ∧ Locs K ρ G3 σ' ∧ dForL dg ts (xs.drop (i + 1)) Dd ρ M, ?_, fun x H3 y => ?_⟩
    · rintro σ' H' ⟨ρ3, M3, G3, s3, r3, l3, q3⟩
      exact ⟨xs.length - (i + 1), by omega, ρ3, M3, G3, s3, r3, l3, q3, rfl, hlt⟩
    · rw [List.drop_eq_getElem_cons hlt] at q2
      -- the body, from the item's rep on
      have key : ∀ (G3 : Hp), Same G2 G3 → RelH K M2 G3 H3 → Rep K G3 xs[i] x → upG K G0 dg x σ2 H3 fun σ2 H2 => upS K G0 ts { D with nx := fun σ' H' => ∃ ρ M G3, Same G1 G3 ∧ RelH K M G3 H' ∧ Locs K ρ G3 σ' ∧ dForL dg ts (xs.drop (i + 1)) Dd ρ M, ct := fun σ' H' => ∃ ρ M G3, Same G1 G3 ∧ RelH K M G3 H' ∧ Locs K ρ G3 σ' ∧ dForL dg ts (xs.drop (i + 1)) Dd ρ M, bk := D.nx } σ2 H2 := by
        intro G3 s3 r3 p3
        refine ⟨ρ2, M2, G3, xs[i], _, ((s0.trans s1).trans s2).trans s3, r3, l2.mono s3, p3, q2, fun ρ4 M4 G4 σ4 H4 s4 r4 l4 q4 => ?_⟩
        have sB : Same G1 G4 := (s2.trans s3).trans s4
        refine ⟨ρ4, M4, G4, _, (s0.trans s1).trans sB, r4, l4, q4, fun ρ5 M5 G5 σ5 H5 s5 r5 l5 q5 => ⟨ρ5, M5, G5, sB.trans s5, r5, l5, q5⟩, fun d M' G' v H' z => k2 d M' G' v H' ((s1.trans sB).trans z), fun _ _ _ _ _ z => k1 _ _ _ _ _ ((s1.trans sB).trans z), fun ρ5 M5 G5 σ5 H5 s5 r5 l5 q5 => ⟨ρ5, M5, G5, sB.trans s5, r5, l5, q5⟩⟩
      rcases wk.yld i H2 x H3 xs[i] (s2.trans r2.sub) (List.getElem?_eq_getElem hlt) y with ⟨e, p3⟩ | ⟨p, o, hp, e, p3⟩
      · subst e
        exact key G2 (Same.refl _) r2 (p3.mono s2)
      · subst e
        exact key _ (same_upd (r2.free hp)) (r2.laid hp o) (p3 G2 s2 (r2.free hp))
  · have e : i = xs.length := by omega
    subst e
    rw [List.drop_length] at q2
    exact .inl ⟨wk.stop _ H2 (s2.trans r2.sub) (Nat.le_refl _), k1 ρ2 M2 G2 σ2 H2 (s1.trans s2) r2 l2 q2⟩
theorem ds_for {iter : Expr} {body : List Stmt} {di : DI} (hp : PassesOwn (model X.prog X.w) X.A X.env X.xe) (hc : X.calm = true) (hi : PI X tg iter (upI K G0 di)) (hg : PG X tg (upG K G0 dg)) (hb : PSs X body (upS K G0 ts))
    (hs : ∀ x, foldedSetIterable iter X.env x = pure x := by intro _; rfl) : PS X (.For tg iter body [] pos) (upS K G0 (dFor di dg ts)) := ps_mono (ps_for hp hc hi hg hb hs) fun D σ H h => up_for h
theorem pi_mono {iter : Expr} {t t' : TI} (h : PI X tg iter t) (i : ∀ σ H R, t' σ H R → t σ H R) : PI X tg iter t' := ⟨fun pins s σ H R I q => h.run pins s σ H R I (i σ H R q)⟩
/-- the items of a list, of a tuple, of the script -/
def items : D → Option (List D)
  | .lst xs => some xs
  | .tup xs => some xs
  | .scr ns => some (ns.map .int)
  | _ => none
/-- what stands at a is a list (or a tuple) of these -/
def SeqAt' (K : PySem.W.Frag) (H : Hp) (a : Addr) (vs : List V) : Prop := SqL K H a vs ∨ SqT K H a vs
theorem reps_ints {H : Hp} : ∀ ns : List Int, Reps K H (ns.map D.int) (ns.map V.int)
  | [] => Reps.nil
  | n :: r => Reps.cons (flat_rep rfl) (reps_ints r)
theorem items_rep {d : D} {xs : List D} {v : V} {G : Hp} (h : items d = some xs) (p : Rep K G d v) : ∃ a vs, v = .ref a ∧ SeqAt' K G a vs ∧ Reps K G xs vs := by
  cases d with
  | lst ys =>
    cases h
    unfold Rep at p
    obtain ⟨a, vs, e, q, r⟩ := p
    exact ⟨a, vs, e, .inl (SqL.of q), r⟩
  | tup ys =>
    cases h
    unfold Rep at p
    obtain ⟨a, vs, e, q, r⟩ := p
    exact ⟨a, vs, e, .inr q, r⟩
  | scr ns =>
    cases h
    unfold Rep at p
    obtain ⟨a, e, q⟩ := p
    exact ⟨a, _, e, .inl q, reps_ints ns⟩
  | _ => cases h
def iSeq (K : PySem.W.Frag) (tl : TE) : TI := fun σ H R => tl σ H fun x H1 => ∃ a, x = .ref a ∧ (((∃ xs, SqL K H1 a xs) ∧ R (Itl K a) H1) ∨ ((∃ xs, SqT K H1 a xs) ∧ R (Itt K a) H1))
theorem pi_seq {l : Expr} {tl : TE} (hl : PE X l tl) : PI X tg l (iSeq X.K tl) := by
  refine ⟨fun pins s σ H R I h => thn (hl.run pins s σ H _ I h) ?_⟩
  rintro v s1 ⟨x, H1, I1, r1, a, e, q⟩
  subst e
  cases r1
  have frs : ∀ (b : Addr), b ∈ [s1.heap.objs.size] → FpOk X pins H1 b := fun b hb => by
    obtain rfl : b = s1.heap.objs.size := by simpa using hb
    exact I1.fpOk (Nat.le_refl _) (I1.hok.fresh (Nat.le_refl _))
  rcases q with ⟨⟨xs, hq⟩, q⟩ | ⟨⟨xs, hq⟩, q⟩
  · obtain ⟨its, rv, pl, hz⟩ := I1.list hq
    exact wpAny_pyIter_list pl.isList ⟨_, [s1.heap.objs.size], _, _, H1, rfl, I1.kept (t' := s1.toks) fun b o z => Heap.get?_push_of_some _ z, turn_list a _, ⟨_, Heap.get?_push_size _ rfl, rfl, rfl⟩, frs, q⟩
  · obtain ⟨its, rv, pl, hz⟩ := I1.tuple hq
    exact wpAny_pyIter_tuple (show s1.heap.IsTuple a its.toArray from pl) ⟨_, [s1.heap.objs.size], _, _, H1, rfl, I1.kept (t' := s1.toks) fun b o z => Heap.get?_push_of_some _ z, turn_tuple a _, ⟨_, Heap.get?_push_size _ rfl, rfl, rfl⟩, frs, q⟩
def dSeqI (e : DE) : DI := fun ρ M Q => e ρ M fun d M1 => match items d with | some xs => Q xs M1 | none => False
theorem walks_seq {a : Addr} {vs : List V} {xs : List D} {G : Hp} (h : SqL K G a vs) (r : Reps K G xs vs) : WalksD K (Itl K a) xs G where
  go := fun i H s hi => ⟨vs, vs[i]'(by rw [← r.length]; exact hi), s.seq h, List.getElem?_eq_getElem _⟩
  stop := fun i H s hi => ⟨vs, s.seq h, by rw [← r.length]; exact hi⟩
  yld := fun i H x H' d s hd y => by
    obtain ⟨e, y⟩ := y
    obtain ⟨v, e1, p⟩ := r.get hd
    have e2 := y vs (s.seq h)
    rw [e1] at e2
    cases e2
    exact .inl ⟨e, p⟩
theorem walks_tup {a : Addr} {vs : List V} {xs : List D} {G : Hp} (h : SqT K G a vs) (r : Reps K G xs vs) : WalksD K (Itt K a) xs G where
  go := fun i H s hi => ⟨vs, vs[i]'(by rw [← r.length]; exact hi), sameT s h, List.getElem?_eq_getElem _⟩
  stop := fun i H s hi => ⟨vs, sameT s h, by rw [← r.length]; exact hi⟩
  yld := fun i H x H' d s hd y => by
    obtain ⟨e, y⟩ := y
    obtain ⟨v, e1, p⟩ := r.get hd
    have e2 := y vs (sameT s h)
    rw [e1] at e2
    cases e2
    exact .inl ⟨e, p⟩
theorem di_seq {l : Expr} (hK : X.K = K) (hl : PE X l (up K G0 de)) : PI X tg l (upI K G0 (dSeqI de)) := by
  subst hK
  refine pi_mono (pi_seq hl) fun σ H R h => ?_
  obtain ⟨ρ, M, G, Qd, s0, rl, l, h, kk⟩ := h
  refine ⟨ρ, M, G, _, s0, rl, l, h, fun d M1 G1 v H1 s1 r1 p1 q1 => ?_⟩
  cases e : items d with
  | none => rw [e] at q1; exact q1.elim
  | some xs =>
    rw [e] at q1
    obtain ⟨a, vs, ev, hq, rp⟩ := items_rep e p1
    rcases hq with hq | hq
    · exact ⟨a, ev, .inl ⟨⟨vs, r1.sub.seq hq⟩, kk xs M1 G1 H1 _ s1 r1 (walks_seq hq rp) q1⟩⟩
    · exact ⟨a, ev, .inr ⟨⟨vs, sameT r1.sub hq⟩, kk xs M1 G1 H1 _ s1 r1 (walks_tup hq rp) q1⟩⟩
/-- lo, lo + 1, .. -/
def rng (lo : Int) (n : Nat) : List D := (List.range n).map fun i => .int (lo + (i : Nat))
theorem walks_rng {lo : Int} {n : Nat} {G : Hp} : WalksD K (Itr lo n) (rng lo n) G where
  go := fun i H s hi => by unfold rng at hi; show i < n; simpa using hi
  stop := fun i H s hi => by unfold rng at hi; show n ≤ i; simpa using hi
  yld := fun i H x H' d s hd y => by
    obtain ⟨e, y⟩ := y
    subst y
    unfold rng at hd
    rw [List.getElem?_map] at hd
    cases q : (List.range n)[i]? with
    | none => rw [q] at hd; cases hd
    | some j =>
      rw [q] at hd
      cases hd
      obtain ⟨hi, e2⟩ := List.getElem?_eq_some_iff.mp q
      have e3 : i = j := by simpa using e2
      subst e3
      exact .inl ⟨e, flat_rep rfl⟩
def dRng1 (a : DA) : DI := fun ρ M Q => a ρ M fun ds M1 => match ds with | [.int j] => (-(2 ^ 62) ≤ j ∧ j < 2 ^ 62) ∧ Q (rng 0 j.toNat) M1 | _ => False
def dRng2 (a : DA) : DI := fun ρ M Q => a ρ M fun ds M1 => match ds with | [.int i, .int j] => (-(2 ^ 62) ≤ i ∧ i < 2 ^ 62 ∧ -(2 ^ 62) ≤ j ∧ j < 2 ^ 62) ∧ Q (rng i (j - i).toNat) M1 | _ => False
theorem reps1 {x : D} {vs : List V} {G : Hp} (h : Reps K G [x] vs) : ∃ v, vs = [v] ∧ Rep K G x v := by
  unfold Reps at h
  obtain ⟨v, w, e, p, q⟩ := h
  unfold Reps at q
  subst q
  exact ⟨v, e, p⟩
theorem reps2 {x y : D} {vs : List V} {G : Hp} (h : Reps K G [x, y] vs) : ∃ v w, vs = [v, w] ∧ Rep K G x v ∧ Rep K G y w := by
  unfold Reps at h
  obtain ⟨v, w, e, p, q⟩ := h
  obtain ⟨u, e2, p2⟩ := reps1 q
  subst e2
  exact ⟨v, u, e, p, p2⟩
theorem rep_int {i : Int} {v : V} {G : Hp} (h : Rep K G (.int i) v) : v = .int i := by unfold Rep at h; exact h
theorem rep_str {i : Str} {v : V} {G : Hp} (h : Rep K G (.str i) v) : v = .str i := by unfold Rep at h; exact h
theorem rep_bl {i : Bool} {v : V} {G : Hp} (h : Rep K G (.bl i) v) : v = .bl i := by unfold Rep at h; exact h
theorem rep_ref {i : Addr} {v : V} {G : Hp} (h : Rep K G (.ref i) v) : v = .ref i := by unfold Rep at h; exact h
theorem rep_non {v : V} {G : Hp} (h : Rep K G .non v) : v = .non := by unfold Rep at h; exact h
theorem di_rng1 (hg : Gl X "range") (hm : X.mg "range" = none) (ha : PA X [a] (upA K G0 ad)) (hs : starEach [a] X.env = [(false, eval a X.env)] := by rfl) : PI X tg (.Call (.Name "range" p) [a] [] pos) (upI K G0 (dRng1 ad)) :=
  pi_mono (pi_range1 hg hm ha hs) fun σ H R h => by
    obtain ⟨ρ, M, G, Qd, s0, rl, l, h, kk⟩ := h
    refine ⟨ρ, M, G, _, s0, rl, l, h, fun ds M1 G1 vs H1 s1 r1 p1 q1 => ?_⟩
    match ds, q1 with
    | [.int j], q1 =>
      obtain ⟨v, e, p⟩ := reps1 p1
      subst e
      rw [rep_int p]
      exact ⟨j, rfl, q1.1.1, q1.1.2, kk _ M1 G1 H1 _ s1 r1 walks_rng q1.2⟩
theorem di_rng2 (hg : Gl X "range") (hm : X.mg "range" = none) (ha : PA X [a, b] (upA K G0 ad)) (hs : starEach [a, b] X.env = [(false, eval a X.env), (false, eval b X.env)] := by rfl) (hs2 : starEach [b] X.env = [(false, eval b X.env)] := by rfl) :
    PI X tg (.Call (.Name "range" p) [a, b] [] pos) (upI K G0 (dRng2 ad)) :=
  pi_mono (pi_range2 hg hm ha hs hs2) fun σ H R h => by
    obtain ⟨ρ, M, G, Qd, s0, rl, l, h, kk⟩ := h
    refine ⟨ρ, M, G, _, s0, rl, l, h, fun ds M1 G1 vs H1 s1 r1 p1 q1 => ?_⟩
    match ds, q1 with
    | [.int i, .int j], q1 =>
      obtain ⟨v, w, e, p, p'⟩ := reps2 p1
      subst e
      rw [rep_int p, rep_int p']
      exact ⟨i, j, rfl, q1.1, kk _ M1 G1 H1 _ s1 r1 walks_rng q1.2⟩
end
end Dq
/-! The deep layer, part 3: operators, built-ins, dicts. -/
namespace Dq
open PySem PySem.Spec PyProof.Rows L2
section
variable {X : Cx} {G0 : Hp} {a b c e : Expr} {es : List Expr} {pos : Pos} {da db de : DE} {ad : DA} {dg : DG} {ts us : DS} {tg : Expr} {p : Pos}
/-! ### whole numbers, texts, lists -/
/-- two ints -/
def rI2 (C : Int → Int → Prop) (g : Int → Int → D) : RD2 := fun x y M Q => match x, y with | .int i, .int j => C i j ∧ Q (g i j) M | _, _ => False
theorem op_I2 {f : Value → Value → Sem Value} {C : Int → Int → Prop} {g : Int → Int → D} {g' : Int → Int → V} (h : OpR X f (rI C g')) (e : ∀ i j, flat (g i j) = some (g' i j)) : OpR X f (up2 X.K (rI2 C g)) :=
  op_mono h fun x y H Q q => by
    obtain ⟨M, G, dx, dy, Qd, rl, p1, p2, q, k⟩ := q
    unfold rI2 at q
    split at q
    · rename_i i j
      obtain ⟨hc, q⟩ := q
      exact ⟨i, j, rep_int p1, rep_int p2, hc, k _ M G _ H (Same.refl _) rl (flat_rep (e i j)) q⟩
    · exact q.elim
theorem op_I0 {f : Value → Value → Sem Value} {g : Int → Int → D} {g' : Int → Int → V} (h : OpR X f (rI0 g')) (e : ∀ i j, flat (g i j) = some (g' i j)) : OpR X f (up2 X.K (rI2 (fun _ _ => True) g)) :=
  op_mono h fun x y H Q q => by
    obtain ⟨M, G, dx, dy, Qd, rl, p1, p2, q, k⟩ := q
    unfold rI2 at q
    split at q
    · rename_i i j
      obtain ⟨hc, q⟩ := q
      exact ⟨i, j, rep_int p1, rep_int p2, k _ M G _ H (Same.refl _) rl (flat_rep (e i j)) q⟩
    · exact q.elim
/-- + by kinds -/
def rAdd : RD2 := fun x y M Q => match x, y with
  | .int i, .int j => Q (.int (i + j)) M
  | .str s, .str t => s.length + t.length ≤ sizeLine ∧ Q (.str (s ++ t)) M
  | .lst xs, .lst ys => xs.length + ys.length ≤ sizeLine ∧ Q (.lst (xs ++ ys)) M
  | _, _ => False
/-- one rule for several kinds -/
theorem add_ok : OpR X (binaryOp .Add) (up2 X.K rAdd) := by
  intro pins s σ H x y v u Q I rx ry h
  obtain ⟨M, G, dx, dy, Qd, rl, p1, p2, q, k⟩ := h
  unfold rAdd at q
  split at q
  · rename_i i j
    exact op_add pins s σ H x y v u Q I rx ry ⟨i, j, rep_int p1, rep_int p2, k _ M G _ H (Same.refl _) rl (flat_rep rfl) q⟩
  · rename_i z t
    exact op_add_str pins s σ H x y v u Q I rx ry ⟨z, t, rep_str p1, rep_str p2, q.1, k _ M G _ H (Same.refl _) rl (flat_rep rfl) q.2⟩
  · rename_i xs ys
    unfold Rep at p1 p2
    obtain ⟨l1, v1, e1, h1, r1⟩ := p1
    obtain ⟨l2, v2, e2, h2, r2⟩ := p2
    refine op_cat pins s σ H x y v u Q I rx ry ⟨l1, l2, v1, v2, e1, e2, rl.sub _ _ h1, rl.sub _ _ h2, by rw [← r1.length, ← r2.length]; exact q.1, fun p hp => ?_⟩
    have g := rl.free hp
    refine k _ M (upd G p (.lst (v1 ++ v2))) _ _ (same_upd g) (rl.laid hp _) ?_ q.2
    unfold Rep
    exact ⟨p, v1 ++ v2, rfl, upd_same, (r1.append r2).mono (same_upd g)⟩
  · exact q.elim
theorem sub_ok : OpR X (binaryOp .Sub) (up2 X.K (rI2 (fun _ _ => True) fun i j => .int (i - j))) := op_I0 op_sub fun _ _ => rfl
theorem mul_ok : OpR X (binaryOp .Mult) (up2 X.K (rI2 CMulW fun i j => .int (i * j))) := op_I2 op_mulW fun _ _ => rfl
theorem mod_ok : OpR X (binaryOp .Mod) (up2 X.K (rI2 (fun _ j => 0 < j) fun i j => .int (i % j))) := op_I2 op_mod fun _ _ => rfl
theorem fdiv_ok : OpR X (binaryOp .FloorDiv) (up2 X.K (rI2 CDivW fun i j => .int (i / j))) := op_I2 op_fdivW fun _ _ => rfl
theorem pow_ok : OpR X (binaryOp .Pow) (up2 X.K (rI2 CPow fun i j => .int (i ^ j.toNat))) := op_I2 op_pow fun _ _ => rfl
theorem lt_ok : OpR X (compareOp .Lt) (up2 X.K (rI2 (fun _ _ => True) fun i j => .bl (decide (i < j)))) := op_I0 op_lt fun _ _ => rfl
theorem le_ok : OpR X (compareOp .LtE) (up2 X.K (rI2 (fun _ _ => True) fun i j => .bl (decide (i ≤ j)))) := op_I0 op_le fun _ _ => rfl
theorem gt_ok : OpR X (compareOp .Gt) (up2 X.K (rI2 (fun _ _ => True) fun i j => .bl (decide (j < i)))) := op_I0 op_gt fun _ _ => rfl
theorem ge_ok : OpR X (compareOp .GtE) (up2 X.K (rI2 (fun _ _ => True) fun i j => .bl (decide (j ≤ i)))) := op_I0 op_ge fun _ _ => rfl
def rNeg : RD1 := fun x M Q => match x with | .int i => Q (.int (-i)) M | _ => False
theorem neg_ok : UnR X (unaryOp .USub) (up1 X.K rNeg) := un_mono un_neg fun x H Q q => by
  obtain ⟨M, G, dx, Qd, rl, p1, q, k⟩ := q
  unfold rNeg at q
  split at q
  · rename_i i
    exact ⟨i, rep_int p1, k _ M G _ H (Same.refl _) rl (flat_rep rfl) q⟩
  · exact q.elim

/-! ### == -/
mutual
/-- as the library's data, where it is such -/
def D.py : D → Option PyData
  | .non => some .none
  | .bl b => some (.bool b)
  | .int i => some (.int i)
  | .str x => some (.str x)
  | .tup xs => (D.pys xs).map .tuple
  | .lst xs => (D.pys xs).map .list
  | _ => none
def D.pys : List D → Option (List PyData)
  | [] => some []
  | d :: r => match D.py d, D.pys r with
    | some x, some xs => some (x :: xs)
    | _, _ => none
end
mutual
theorem dp_of {K : PySem.W.Frag} {G : Hp} : ∀ {d : D} {v : V} {x : PyData}, Rep K G d v → d.py = some x → Dp K G v x
  | .non, v, x, h, e => by unfold Rep at h; subst h; simp [D.py] at e; subst e; exact .non
  | .bl b, v, x, h, e => by unfold Rep at h; subst h; simp [D.py] at e; subst e; exact .bl b
  | .int i, v, x, h, e => by unfold Rep at h; subst h; simp [D.py] at e; subst e; exact .int i
  | .str z, v, x, h, e => by unfold Rep at h; subst h; simp [D.py] at e; subst e; exact .str z
  | .tup xs, v, x, h, e => by
    unfold Rep at h
    obtain ⟨a, vs, rfl, h1, h2⟩ := h
    unfold D.py at e
    cases q : D.pys xs with
    | none => rw [q] at e; cases e
    | some ys => rw [q] at e; cases e; exact .tup h1 (dps_of h2 q)
  | .lst xs, v, x, h, e => by
    unfold Rep at h
    obtain ⟨a, vs, rfl, h1, h2⟩ := h
    unfold D.py at e
    cases q : D.pys xs with
    | none => rw [q] at e; cases e
    | some ys => rw [q] at e; cases e; exact .lst (SqL.of h1) (dps_of h2 q)
  | .ref _, _, _, _, e => by simp [D.py] at e
  | .ty _, _, _, _, e => by simp [D.py] at e
  | .scr _, _, _, _, e => by simp [D.py] at e
  | .dic _, _, _, _, e => by simp [D.py] at e
theorem dps_of {K : PySem.W.Frag} {G : Hp} : ∀ {ds : List D} {vs : List V} {xs : List PyData}, Reps K G ds vs → D.pys ds = some xs → DpAll K G vs xs
  | [], vs, xs, h, e => by unfold Reps at h; subst h; simp [D.pys] at e; subst e; exact .nil
  | d :: r, vs, xs, h, e => by
    unfold Reps at h
    obtain ⟨v, ws, rfl, h1, h2⟩ := h
    unfold D.pys at e
    cases q1 : D.py d with
    | none => rw [q1] at e; cases e
    | some y =>
      cases q2 : D.pys r with
      | none => rw [q1, q2] at e; cases e
      | some ys => rw [q1, q2] at e; cases e; exact .cons (dp_of h1 q1) (dps_of h2 q2)
end
mutual
theorem dp_mono {K : PySem.W.Frag} {G H : Hp} (s : Same G H) : ∀ {v : V} {x : PyData}, Dp K G v x → Dp K H v x
  | _, _, .non => .non
  | _, _, .bl b => .bl b
  | _, _, .int i => .int i
  | _, _, .str z => .str z
  | _, _, .lst h t => .lst (s.seq h) (dps_mono s t)
  | _, _, .tup h t => .tup (sameT s h) (dps_mono s t)
theorem dps_mono {K : PySem.W.Frag} {G H : Hp} (s : Same G H) : ∀ {vs : List V} {xs : List PyData}, DpAll K G vs xs → DpAll K H vs xs
  | _, _, .nil => .nil
  | _, _, .cons h t => .cons (dp_mono s h) (dps_mono s t)
end
/-- == of data -/
def rEqD' (neg : Bool) : RD2 := fun x y M Q => ∃ p q, x.py = some p ∧ y.py = some q ∧ SeqAt.shaped p = true ∧ SeqAt.shaped q = true ∧ Q (.bl (if neg then !PyData.eqv p q else PyData.eqv p q)) M
/-- ==: numbers and texts by themselves, all else as data -/
def rEq' : RD2 := fun x y M Q => match x, y with
  | .int i, .int j => Q (.bl (decide (i = j))) M
  | .str s, .str t => Q (.bl (decide (s = t))) M
  | x, y => rEqD' false x y M Q
def rNe' : RD2 := fun x y M Q => match x, y with
  | .int i, .int j => Q (.bl (!decide (i = j))) M
  | .str s, .str t => Q (.bl (!decide (s = t))) M
  | x, y => rEqD' true x y M Q
theorem eq_ok (hu : X.A.units + 64 < cLine) : OpR X (compareOp .Eq) (up2 X.K rEq') := by
  intro pins s σ H x y v u Q I rx ry h
  obtain ⟨M, G, dx, dy, Qd, rl, p1, p2, q, k⟩ := h
  unfold rEq' at q
  split at q
  · rename_i i j
    have := rep_int p1
    have := rep_int p2
    subst x y
    refine op_eq pins s σ H _ _ v u Q I rx ry ⟨rfl, ?_⟩
    have q' := k _ M G (.bl (decide (i = j))) H (Same.refl _) rl (flat_rep rfl) q
    rw [dec_int, Bool.beq_eq_decide_eq]
    exact q'
  · rename_i i j
    have := rep_str p1
    have := rep_str p2
    subst x y
    refine op_eq pins s σ H _ _ v u Q I rx ry ⟨rfl, ?_⟩
    have q' := k _ M G (.bl (decide (i = j))) H (Same.refl _) rl (flat_rep rfl) q
    rw [dec_str, Bool.beq_eq_decide_eq]
    exact q'
  · obtain ⟨p, r, e1, e2, h1, h2, q⟩ := q
    exact op_eqD hu pins s σ H x y v u Q I rx ry ⟨p, r, dp_mono rl.sub (dp_of p1 e1), dp_mono rl.sub (dp_of p2 e2), h1, h2, k _ M G _ H (Same.refl _) rl (flat_rep rfl) q⟩
theorem ne_ok (hu : X.A.units + 64 < cLine) : OpR X (compareOp .NotEq) (up2 X.K rNe') := by
  intro pins s σ H x y v u Q I rx ry h
  obtain ⟨M, G, dx, dy, Qd, rl, p1, p2, q, k⟩ := h
  unfold rNe' at q
  split at q
  · rename_i i j
    have := rep_int p1
    have := rep_int p2
    subst x y
    refine op_ne pins s σ H _ _ v u Q I rx ry ⟨rfl, ?_⟩
    have q' := k _ M G (.bl (!decide (i = j))) H (Same.refl _) rl (flat_rep rfl) q
    rw [dec_int, Bool.beq_eq_decide_eq]
    exact q'
  · rename_i i j
    have := rep_str p1
    have := rep_str p2
    subst x y
    refine op_ne pins s σ H _ _ v u Q I rx ry ⟨rfl, ?_⟩
    have q' := k _ M G (.bl (!decide (i = j))) H (Same.refl _) rl (flat_rep rfl) q
    rw [dec_str, Bool.beq_eq_decide_eq]
    exact q'
  · obtain ⟨p, r, e1, e2, h1, h2, q⟩ := q
    exact op_neD hu pins s σ H x y v u Q I rx ry ⟨p, r, dp_mono rl.sub (dp_of p1 e1), dp_mono rl.sub (dp_of p2 e2), h1, h2, k _ M G _ H (Same.refl _) rl (flat_rep rfl) q⟩
/-- is None, is not None -/
def isNon : D → Bool
  | .non => true
  | _ => false
def rIsN : RD2 := fun x y M Q => match y with | .non => Q (.bl (isNon x)) M | _ => False
def rNotN : RD2 := fun x y M Q => match y with | .non => Q (.bl (!isNon x)) M | _ => False
theorem isNon_rep {K : PySem.W.Frag} {G : Hp} {d : D} {v : V} (h : Rep K G d v) : decide (v = .non) = isNon d := by
  cases d <;> unfold Rep at h <;> first
    | (subst h; rfl)
    | (obtain ⟨a, e, _⟩ := h; subst e; rfl)
    | (obtain ⟨a, vs, e, _⟩ := h; subst e; rfl)
theorem isN_ok : OpR X (compareOp .Is) (up2 X.K rIsN) := op_mono op_isN fun x y H Q q => by
  obtain ⟨M, G, dx, dy, Qd, rl, p1, p2, q, k⟩ := q
  unfold rIsN at q
  split at q
  · exact ⟨rep_non p2, by rw [isNon_rep p1]; exact k _ M G _ H (Same.refl _) rl (flat_rep rfl) q⟩
  · exact q.elim
theorem notN_ok : OpR X (compareOp .IsNot) (up2 X.K rNotN) := op_mono op_notN fun x y H Q q => by
  obtain ⟨M, G, dx, dy, Qd, rl, p1, p2, q, k⟩ := q
  unfold rNotN at q
  split at q
  · exact ⟨rep_non p2, by rw [isNon_rep p1]; exact k _ M G _ H (Same.refl _) rl (flat_rep rfl) q⟩
  · exact q.elim
/-- x in a list or tuple of flat things -/
def flats : List D → Option (List V)
  | [] => some []
  | d :: r => match flat d, flats r with | some v, some vs => some (v :: vs) | _, _ => none
theorem flats_rep {K : PySem.W.Frag} {G : Hp} : ∀ {ds : List D} {vs ws : List V}, flats ds = some vs → Reps K G ds ws → ws = vs
  | [], vs, ws, e, h => by unfold Reps at h; simp [flats] at e; rw [h, e]
  | d :: r, vs, ws, e, h => by
    unfold Reps at h
    obtain ⟨v, us, rfl, h1, h2⟩ := h
    unfold flats at e
    cases q1 : flat d with
    | none => rw [q1] at e; cases e
    | some y =>
      cases q2 : flats r with
      | none => rw [q1, q2] at e; cases e
      | some ys =>
        rw [q1, q2] at e
        cases e
        rw [flats_rep q2 h2]
        have : v = y := by
          cases d <;> simp [flat] at q1 <;> (subst q1; unfold Rep at h1; exact h1)
        rw [this]
theorem flat_eq {K : PySem.W.Frag} {G : Hp} {d : D} {v w : V} (e : flat d = some v) (h : Rep K G d w) : w = v := by
  cases d <;> simp [flat] at e <;> (subst e; unfold Rep at h; exact h)
def rIn' (neg : Bool) : RD2 := fun x y M Q => ∃ xs v vs, items y = some xs ∧ flat x = some v ∧ flats xs = some vs ∧ flatV v = true ∧ vs.all flatV = true ∧ Q (.bl (if neg then !inV v vs else inV v vs)) M
theorem in_gen {f : Value → Value → Sem Value} {neg : Bool} (h : OpR X f (rIn X.K neg)) : OpR X f (up2 X.K (rIn' neg)) := op_mono h fun x y H Q q => by
  obtain ⟨M, G, dx, dy, Qd, rl, p1, p2, q, k⟩ := q
  obtain ⟨xs, v, vs, e1, e2, e3, h1, h2, q⟩ := q
  obtain ⟨a, ws, ea, hq, rp⟩ := items_rep e1 p2
  have ew := flats_rep e3 rp
  have ex := flat_eq e2 p1
  subst ew ex
  refine ⟨a, ws, ea, ?_, h1, h2, k _ M G _ H (Same.refl _) rl (flat_rep rfl) q⟩
  rcases hq with hq | hq
  · exact .inl (rl.sub.seq hq)
  · exact .inr (sameT rl.sub hq)
theorem in_ok : OpR X (compareOp .In) (up2 X.K (rIn' false)) := in_gen op_in_seq
theorem notIn_ok : OpR X (compareOp .NotIn) (up2 X.K (rIn' true)) := in_gen op_notIn_seq

/-! ### built-ins -/
/-- the list, the dict that stands at a and changes -/
def lstAt (M : Mm) (a : Addr) : Option (List D) := match M a with | some (.lst xs) => some xs | _ => none
def dicAt (M : Mm) (a : Addr) : Option (List (Key × D)) := match M a with | some (.dic xs) => some xs | _ => none
theorem lstAt_some {M : Mm} {a : Addr} {xs : List D} (h : lstAt M a = some xs) : M a = some (.lst xs) := by
  unfold lstAt at h
  split at h
  · rename_i ys e; rw [e, Option.some.inj h]
  · cases h
theorem dicAt_some {M : Mm} {a : Addr} {xs : List (Key × D)} (h : dicAt M a = some xs) : M a = some (.dic xs) := by
  unfold dicAt at h
  split at h
  · rename_i ys e; rw [e, Option.some.inj h]
  · cases h
theorem lstAt_of {M : Mm} {a : Addr} {xs : List D} (h : M a = some (.lst xs)) : lstAt M a = some xs := by unfold lstAt; rw [h]
theorem dicAt_of {M : Mm} {a : Addr} {xs : List (Key × D)} (h : M a = some (.dic xs)) : dicAt M a = some xs := by unfold dicAt; rw [h]
def rLen (M : Mm) : D → Option Int
  | .tup xs => some xs.length
  | .lst xs => some xs.length
  | .scr ns => some ns.length
  | .ref a => (lstAt M a).map fun xs => (xs.length : Int)
  | _ => none
def cLen : RDC := fun ds M Q => match ds with
  | [.str x] => x.length ≤ sizeLine ∧ Q (.int x.length) M
  | [d] => match rLen M d with | some n => Q (.int n) M | none => False
  | _ => False
theorem len_items {G H : Hp} {M : Mm} {d : D} {n : Int} {v : V} (rl : RelH X.K M G H) (p : Rep X.K G d v) (e : rLen M d = some n) : ∃ m : Nat, n = m ∧ LenV X.K v H m := by
  cases d with
  | tup xs =>
    simp [rLen] at e
    unfold Rep at p
    obtain ⟨a, vs, rfl, h, r⟩ := p
    exact ⟨xs.length, e.symm, .inr ⟨vs, sameT rl.sub h, r.length⟩⟩
  | lst xs =>
    simp [rLen] at e
    unfold Rep at p
    obtain ⟨a, vs, rfl, h, r⟩ := p
    exact ⟨xs.length, e.symm, .inl ⟨vs, rl.sub.seq (SqL.of h), r.length⟩⟩
  | scr ns =>
    simp [rLen] at e
    unfold Rep at p
    obtain ⟨a, rfl, h⟩ := p
    exact ⟨ns.length, e.symm, .inl ⟨_, rl.sub.seq h, by simp⟩⟩
  | ref a =>
    have e' : (lstAt M a).map (fun xs => (xs.length : Int)) = some n := e
    have ev := rep_ref p
    subst ev
    cases q : lstAt M a with
    | none => rw [q] at e'; cases e'
    | some xs =>
      rw [q] at e'
      cases e'
      obtain ⟨_, vs, h, r⟩ := rl.mem a _ (lstAt_some q)
      exact ⟨xs.length, rfl, .inl ⟨vs, SqL.of h, r.length⟩⟩
  | _ => simp [rLen] at e
theorem len_ok : CallR X (.builtin "len") (upC X.K cLen) := call_mono call_len fun xs H Q q => by
  obtain ⟨M, G, ds, Qd, rl, rp, q, k⟩ := q
  unfold cLen at q
  split at q
  · rename_i x
    obtain ⟨v, e, p⟩ := reps1 rp
    subst e
    have := rep_str p
    subst this
    exact ⟨_, x.length, rfl, ⟨q.1, rfl⟩, k _ M G _ H (Same.refl _) rl (flat_rep rfl) q.2⟩
  · rename_i d _
    obtain ⟨v, e, p⟩ := reps1 rp
    subst e
    cases z : rLen M d with
    | none => rw [z] at q; exact q.elim
    | some n =>
      rw [z] at q
      obtain ⟨m, e2, hl⟩ := len_items rl p z
      subst e2
      exact ⟨v, m, rfl, hl, k _ M G _ H (Same.refl _) rl (flat_rep rfl) q⟩
  · exact q.elim
def cInt : RDC := fun ds M Q => match ds with | [.int i] => Q (.int i) M | [.bl k] => Q (.int (if k then 1 else 0)) M | _ => False
theorem int_ok : CallR X (.type "int") (upC X.K cInt) := call_mono call_int1 fun xs H Q q => by
  obtain ⟨M, G, ds, Qd, rl, rp, q, k⟩ := q
  unfold cInt at q
  split at q
  · rename_i i
    obtain ⟨v, e, p⟩ := reps1 rp
    subst e
    rw [rep_int p]
    exact .inl ⟨i, rfl, k _ M G _ H (Same.refl _) rl (flat_rep rfl) q⟩
  · rename_i i
    obtain ⟨v, e, p⟩ := reps1 rp
    subst e
    rw [rep_bl p]
    exact .inr ⟨i, rfl, k _ M G _ H (Same.refl _) rl (flat_rep rfl) q⟩
  · exact q.elim
/-- list(..): a new list that never changes -/
def cList : RDC := fun ds M Q => match ds with | [d] => (match items d with | some xs => Q (.lst xs) M | none => False) | _ => False
theorem list_ok : CallR X (.type "list") (upC X.K cList) := call_mono call_list_of fun xs H Q q => by
  obtain ⟨M, G, ds, Qd, rl, rp, q, k⟩ := q
  unfold cList at q
  split at q
  · rename_i d
    obtain ⟨v, e, p⟩ := reps1 rp
    subst e
    cases z : items d with
    | none => rw [z] at q; exact q.elim
    | some xs =>
      rw [z] at q
      obtain ⟨a, vs, ea, hq, r⟩ := items_rep z p
      subst ea
      refine ⟨a, vs, rfl, hq.imp (fun h => rl.sub.seq h) (fun h => sameT rl.sub h), fun l hl => ?_⟩
      have g := rl.free hl
      refine k _ M (upd G l (.lst vs)) _ _ (same_upd g) (rl.laid hl _) ?_ q
      unfold Rep
      exact ⟨l, vs, rfl, upd_same, r.mono (same_upd g)⟩
  · exact q.elim

/-! ### places -/
def dAt (M : Mm) (d : D) (i : Int) : Option D := match d with
  | .tup xs => atI xs i
  | .lst xs => atI xs i
  | .scr ns => (atI ns i).map .int
  | .ref a => (lstAt M a).bind fun xs => atI xs i
  | _ => none
def rIx : RD2 := fun x y M Q => match y with | .int i => (match dAt M x i with | some d => Q d M | none => False) | _ => False
theorem atI_rep {K : PySem.W.Frag} {G : Hp} {ds : List D} {vs : List V} {i : Int} {d : D} (r : Reps K G ds vs) (h : atI ds i = some d) : ∃ v, atI vs i = some v ∧ Rep K G d v := by
  unfold atI at h ⊢
  rw [← r.length]
  cases z : ixN ds.length i with
  | none => rw [z] at h; cases h
  | some j =>
    rw [z] at h
    obtain ⟨v, e, p⟩ := r.get (i := j) h
    exact ⟨v, e, p⟩
theorem atI_map {α β : Type} (f : α → β) (xs : List α) (i : Int) : atI (xs.map f) i = (atI xs i).map f := by
  unfold atI
  rw [List.length_map]
  cases ixN xs.length i with
  | none => rfl
  | some j => simp
theorem ix_ok : IxR X (up2 X.K rIx) := by
  intro value slice pins s σ H x y v u Q I rx ry h hs
  obtain ⟨M, G, dx, dy, Qd, rl, p1, p2, q, k⟩ := h
  unfold rIx at q
  split at q
  · rename_i i
    have ey := rep_int p2
    cases z : dAt M dx i with
    | none => rw [z] at q; exact q.elim
    | some d =>
      rw [z] at q
      have fin : ∀ (a : Addr) (vs : List V) (w : V), x = .ref a → SeqAt' X.K H a vs → atI vs i = some w → Rep X.K G d w → wpAny (model X.prog X.w) X.A (subscriptTail value slice v u) (EP X pins σ Q) X.xe s := fun a vs w ex hq ew rw' => by
        have kq := k d M G w H (Same.refl _) rl rw' q
        rcases hq with hq | hq
        · exact ix_list value slice pins s σ H x y v u Q I rx ry ⟨a, vs, i, w, ex, ey, hq, ew, kq⟩ hs
        · exact ix_tup value slice pins s σ H x y v u Q I rx ry ⟨a, vs, i, w, ex, ey, hq, ew, kq⟩ hs
      cases dx with
      | tup xs =>
        unfold Rep at p1
        obtain ⟨a, vs, ex, h1, r⟩ := p1
        obtain ⟨w, ew, pw⟩ := atI_rep r z
        exact fin a vs w ex (.inr (sameT rl.sub h1)) ew pw
      | lst xs =>
        unfold Rep at p1
        obtain ⟨a, vs, ex, h1, r⟩ := p1
        obtain ⟨w, ew, pw⟩ := atI_rep r z
        exact fin a vs w ex (.inl (rl.sub.seq (SqL.of h1))) ew pw
      | scr ns =>
        unfold Rep at p1
        obtain ⟨a, ex, h1⟩ := p1
        have z' : (atI ns i).map D.int = some d := z
        cases e3 : atI ns i with
        | none => rw [e3] at z'; cases z'
        | some n =>
          rw [e3] at z'
          cases z'
          exact fin a _ (.int n) ex (.inl (rl.sub.seq h1)) (by rw [atI_map, e3]; rfl) (flat_rep rfl)
      | ref a =>
        have ex := rep_ref p1
        have z' : (lstAt M a).bind (fun xs => atI xs i) = some d := z
        cases q2 : lstAt M a with
        | none => rw [q2] at z'; cases z'
        | some xs =>
          rw [q2] at z'
          obtain ⟨_, vs, h1, r⟩ := rl.mem a _ (lstAt_some q2)
          obtain ⟨w, ew, pw⟩ := atI_rep r z'
          exact fin a vs w ex (.inl (SqL.of h1)) ew pw
      | _ => simp [dAt] at z
  · exact q.elim
theorem de_ix (ha : PE X a (up X.K G0 da)) (hb : PE X b (up X.K G0 db)) (hs : PlainIx b) : PE X (.Subscript a b pos) (up X.K G0 (dBin rIx da db)) :=
  pe_mono (pe_ix ix_ok ha hb hs) fun _ _ _ h => up_bin h

/-! ### dicts -/
/-- a key -/
def dkey : D → Option Key
  | .int i => some (.inl i)
  | .str x => some (.inr x)
  | _ => none
theorem dkey_rep {K : PySem.W.Frag} {G : Hp} {d : D} {k : Key} {v : V} (e : dkey d = some k) (p : Rep K G d v) : v = kV k := by
  cases d with
  | int i => cases e; exact rep_int p
  | str x => cases e; exact rep_str p
  | _ => cases e
def dpairs (M : Mm) : D → Option (List (Key × D))
  | .dic kvs => some kvs
  | .ref a => dicAt M a
  | _ => none
theorem dpairs_rep {K : PySem.W.Frag} {M : Mm} {G H : Hp} {d : D} {v : V} {kvs : List (Key × D)} (rl : RelH K M G H) (e : dpairs M d = some kvs) (p : Rep K G d v) : ∃ a ws, v = .ref a ∧ H a = some (.dK ws) ∧ RepK K G kvs ws := by
  cases d with
  | dic l =>
    cases e
    unfold Rep at p
    obtain ⟨a, ws, ev, h, r⟩ := p
    exact ⟨a, ws, ev, rl.sub _ _ h, r⟩
  | ref a =>
    obtain ⟨_, ws, h, r⟩ := rl.mem a _ (dicAt_some e)
    exact ⟨a, ws, rep_ref p, h, r⟩
  | _ => cases e
/-- d[k] -/
def rDix : RD2 := fun x y M Q => match dpairs M x, dkey y with
  | some kvs, some k => (match dget kvs k with | some d => Q d M | none => False)
  | _, _ => False
theorem de_dix (hu : X.A.units + 1 < cLine) (ha : PE X a (up X.K G0 da)) (hb : PE X b (up X.K G0 db)) (hs : NoSl b) : PE X (.Subscript a b pos) (up X.K G0 (dBin rDix da db)) :=
  pe_mono (pe_dget hu ha hb hs) fun σ H Q h => by
    obtain ⟨ρ, M, G, Qd, s0, rl, l, h, k⟩ := h
    refine ⟨ρ, M, G, _, s0, rl, l, h, fun x M1 G1 v H1 s1 r1 p1 q1 => ?_⟩
    refine ⟨ρ, M1, G1, _, s0.trans s1, r1, l.mono s1, q1, fun y M2 G2 u H2 s2 r2 p2 q2 => ?_⟩
    unfold rDix at q2
    split at q2
    · rename_i kvs ky e1 e2
      cases z : dget kvs ky with
      | none => rw [z] at q2; exact q2.elim
      | some d =>
        rw [z] at q2
        obtain ⟨a, ws, ev, hw, rk⟩ := dpairs_rep r2 e1 (p1.mono s2)
        obtain ⟨w, ew, pw⟩ := rk.get z
        refine ⟨a, w, ev, ?_, k d M2 G2 w H2 (s1.trans s2) r2 pw q2⟩
        rw [dkey_rep e2 p2, ← ew]
        exact DGet.k hw
    · exact q2.elim
/-- d[k] = e -/
def dDput (d i v : DE) : DS := fun D ρ M => v ρ M fun x M1 => d ρ M1 fun o M2 => i ρ M2 fun y M3 => match o, dkey y with
  | .ref a, some k => (match dicAt M3 a with | some kvs => kvs.length < sizeLine ∧ D.nx ρ (M3.set a (.dic (dput kvs k x))) | none => False)
  | _, _ => False
theorem ds_dput {pos' : Pos} {dv : DE} (hu : X.A.units + 1 < cLine) (ha : PE X a (up X.K G0 da)) (hb : PE X b (up X.K G0 db)) (hv : PE X e (up X.K G0 dv)) (hs : swapsWith e (some (.Subscript a b pos')) pos.line X.env = pure false) :
    PS X (.Assign [.Subscript a b pos'] e pos) (upS X.K G0 (dDput da db dv)) := ps_mono (ps_dput hu ha hb hv hs) fun D σ H h => by
  obtain ⟨ρ, M, G, Dd, s0, rl, l, h, k1, k2, k3, k4⟩ := h
  refine ⟨ρ, M, G, _, s0, rl, l, h, fun x M1 G1 v H1 s1 r1 p1 q1 => ?_⟩
  refine ⟨ρ, M1, G1, _, s0.trans s1, r1, l.mono s1, q1, fun o M2 G2 ov H2 s2 r2 p2 q2 => ?_⟩
  refine ⟨ρ, M2, G2, _, (s0.trans s1).trans s2, r2, (l.mono s1).mono s2, q2, fun y M3 G3 u H3 s3 r3 p3 q3 => ?_⟩
  split at q3
  · rename_i a ky e2
    cases z' : dicAt M3 a with
    | none => rw [z'] at q3; exact q3.elim
    | some kvs =>
        rw [z'] at q3
        have z := dicAt_some z'
        obtain ⟨g, ws, hw, rk⟩ := r3.mem a _ z
        have rv := (p1.mono s2).mono s3
        have hl : ws.length < sizeLine := by rw [← rk.length]; exact q3.1
        refine ⟨a, _, rep_ref p2, ?_, k1 _ _ G3 σ _ ((s1.trans s2).trans s3) (r3.write (m := .dic (dput kvs ky x)) (o := .dK (putK ws ky v)) z ⟨_, upd_same, rk.put rv⟩) (((l.mono s1).mono s2).mono s3) q3.2⟩
        rw [dkey_rep e2 p3]
        exact DPut.k hw hl
  · exact q3.elim
/-- {k: e, ..}, the keys written: a new dict that changes; one that does not -/
def dPairs : List (Key × DE) → Ds → Mm → (List (Key × D) → Mm → Prop) → Prop
  | [], _, M, Q => Q [] M
  | (k, e) :: r, ρ, M, Q => e ρ M fun d M1 => dPairs r ρ M1 fun kvs M2 => Q ((k, d) :: kvs) M2
def dDicM (l : List (Key × DE)) : DE := fun ρ M Q => ∀ p, M p = none → dPairs l ρ (M.set p (.dic [])) fun kvs M2 => M2 p = some (.dic []) ∧ Q (.ref p) (M2.set p (.dic kvs))
def dDic (l : List (Key × DE)) : DE := fun ρ M Q => ∀ p, M p = none → dPairs l ρ (M.set p (.dic [])) fun kvs M2 => M2 p = some (.dic []) ∧ Q (.dic kvs) (M2.del p)
/-- the pairs' terms -/
structure DPP (X : Cx) (G0 : Hp) (pos : Pos) (keys : List (Option Expr)) (values : List Expr) (l : List (Key × DE)) : Prop where
  run : PPs X pos keys values (l.map fun p => (tC (kV p.1), up X.K G0 p.2))
theorem dpp_nil : DPP X G0 pos [] [] [] := ⟨pps_nil⟩
theorem dpp_str {x : Str} {j : Nat} {kp : Pos} {v : Expr} {ks : List (Option Expr)} {vs : List Expr} {dv : DE} {l : List (Key × DE)} (hv : PE X v (up X.K G0 dv)) (hr : DPP X G0 pos ks vs l) :
    DPP X G0 pos (some (.Constant (.str x) j kp) :: ks) (v :: vs) ((Sum.inr x, dv) :: l) := ⟨pps_cons (pe_str (x := x)) hv hr.run⟩
theorem up_pairs {σ : St} {H : Hp} {ρ : Ds} {Q : List (V × V) → Hp → Prop} : ∀ {l : List (Key × DE)} {M : Mm} {G : Hp} {Qd : List (Key × D) → Mm → Prop}, Same G0 G → RelH X.K M G H → Locs X.K ρ G σ → dPairs l ρ M Qd →
    (∀ kvs M' G' ws H', Same G G' → RelH X.K M' G' H' → RepK X.K G' kvs ws → kvs.map (·.1) = l.map (·.1) → Qd kvs M' → Q (ws.map fun kv => (kV kv.1, kv.2)) H') → tPairs (l.map fun p => (tC (kV p.1), up X.K G0 p.2)) σ H Q := by
  intro l
  induction l generalizing H Q with
  | nil =>
    intro M G Qd s0 rl lo h k
    exact k [] M G [] H (Same.refl _) rl RepK.nil rfl h
  | cons p r ih =>
    obtain ⟨ky, e⟩ := p
    intro M G Qd s0 rl lo h k
    refine ⟨ρ, M, G, _, s0, rl, lo, h, fun d M1 G1 v H1 s1 r1 p1 q1 => ?_⟩
    refine ih (s0.trans s1) r1 (lo.mono s1) q1 fun kvs M' G' ws H' s2 r2 rk ek q2 => ?_
    exact k ((ky, d) :: kvs) M' G' ((ky, v) :: ws) H' (s1.trans s2) r2 (RepK.cons (p1.mono s2) rk) (by rw [List.map_cons, List.map_cons, ek]) q2
theorem repK_keys {K : PySem.W.Frag} {G : Hp} : ∀ {kvs : List (Key × D)} {ws : List (Key × V)}, RepK K G kvs ws → ws.map (·.1) = kvs.map (·.1)
  | [], _, h => by unfold RepK at h; subst h; rfl
  | (k0, d0) :: r, _, h => by
    unfold RepK at h
    obtain ⟨v0, rs, rfl, q, p⟩ := h
    rw [List.map_cons, List.map_cons, repK_keys p]
theorem merge_nodup : ∀ (more acc : List (Key × V)), ((acc ++ more).map (·.1)).Nodup → mergeK acc more = acc ++ more
  | [], acc, _ => by simp [mergeK]
  | p :: r, acc, h => by
    have hn : valV acc p.1 = none := by
      cases z : valV acc p.1 with
      | none => rfl
      | some v =>
        have hm := valV_any p.1 acc
        rw [z] at hm
        obtain ⟨q, hq, e⟩ := List.any_eq_true.mp hm
        rw [List.map_append, List.nodup_append] at h
        exact absurd (of_decide_eq_true e) (h.2.2 _ (List.mem_map_of_mem hq) _ (List.mem_map_of_mem List.mem_cons_self))
    have e1 : mergeK acc (p :: r) = mergeK (putK acc p.1 p.2) r := rfl
    rw [e1, putK_new _ hn, merge_nodup r (acc ++ [(p.1, p.2)]) (by simpa using h)]
    simp
theorem tup_disp {keys : List (Option Expr)} {values : List Expr} {l : List (Key × DE)} (h : DPP X G0 pos keys values l) (hall : keys.all (·.isSome) = true) (hl : keys.length = values.length) (h0 : keys ≠ [])
    (h15 : keys.length ≤ 15) (hnd : (l.map (·.1)).Nodup) (h15' : l.length ≤ 15) : PE X (.Dict keys values pos) (up X.K G0 (dDicM l)) := pe_mono (pe_disp h.run hall hl h0 h15) fun σ H Q q => by
  obtain ⟨ρ, M, G, Qd, s0, rl, lo, q, k⟩ := q
  intro p hp
  have r0 : RelH X.K (M.set p (.dic [])) G (upd H p (.dK [])) := rl.newM (m := .dic []) hp ⟨[], upd_same, RepK.nil⟩
  refine up_pairs s0 r0 lo (q p (rl.freeM hp)) fun kvs M' G' ws H' s1 r1 rk ek q1 => ?_
  obtain ⟨e1, q1⟩ := q1
  obtain ⟨g, ws0, h1, rk0⟩ := r1.mem p _ e1
  have ew : ws0 = [] := by unfold RepK at rk0; exact rk0
  subst ew
  have em : mergeK [] ws = ws := by
    refine (merge_nodup ws [] ?_).trans (List.nil_append _)
    rw [List.nil_append, repK_keys rk, ek]
    exact hnd
  have lw : ws.length ≤ 15 := by
    rw [← rk.length, ← List.length_map (f := (·.1)), ek, List.length_map]
    exact h15'
  refine ⟨h1, ws, rfl, lw, ?_⟩
  rw [em]
  exact k _ _ G' _ _ s1 (r1.write (m := .dic kvs) (o := .dK ws) e1 ⟨ws, upd_same, rk⟩) (flat_rep rfl) q1
end
end Dq
/-! The deep layer, part 4: the program's own errors. -/
namespace Dq
open PySem PySem.Spec PyProof.Rows L2
open PySem.W (findIn typeIn subIn keepIn hasDictIn specialIn takesIn mroIn clsIn InstAt Looks looks_findIn looks_find looks_subIn findObj kitOne kitCls exmOne)

/-! ### what the written part says of such a class: C itself, the own classes above it, its fields -/
def errTail : List Value := [.type "ValueError", .type "Exception", .type "BaseException", .type "object"]
def clsChk (C : Addr) (ups : List Addr) (o : Option Obj) : Bool := match o with
  | some ⟨.type "type", _, .cls cd, sl⟩ => (match sl.toList with
    | [_, _, _, _, some (.builtin n), _] => n == "ValueError.__new__" && (!cd.hasDel && (cd.hasDict && cd.mro == (Value.ref C :: (ups.map Value.ref ++ errTail))))
    | _ => false)
  | _ => false
def errChk (K : PySem.W.Frag) (C : Addr) (ups : List Addr) (fs : List Str) : Bool :=
  clsChk C ups (K.lookup C) && (decide (findIn K (.ref C) "__setattr__" = some (some (.builtin "object.__setattr__"))) && (decide (findIn K (.ref C) "__getattribute__" = some (some (.builtin "BaseException.__getattribute__"))) &&
  (decide (findIn K (.ref C) "__getattr__" = some none) && (decide (findIn K (.ref C) "__class__" = some (some (.builtin "object.__class__"))) && (decide (typeIn K (.ref C) = some (.type "type")) && (keepIn K (.ref C) &&
  (decide (specialIn K (.builtin "object.__class__") "__get__" = some (some (.builtin "getset_descriptor.__get__"))) && (decide (takesIn K (.builtin "object.__class__") = some true) && fs.all fun f => decide (findIn K (.ref C) f = some none)))))))))
structure Err (K : PySem.W.Frag) (C : Addr) (ups : List Addr) (fs : List Str) : Prop where
  obj : ∃ nm q N bs sn sub ab col dd k0 k1 k2 k3 k5, K.lookup C = some (excClassObj nm q C N bs (ups.map Value.ref ++ errTail) true sn sub ab col dd k0 k1 k2 k3 k5 "ValueError.__new__")
  sa : findIn K (.ref C) "__setattr__" = some (some (.builtin "object.__setattr__"))
  ga : findIn K (.ref C) "__getattribute__" = some (some (.builtin "BaseException.__getattribute__"))
  gg : findIn K (.ref C) "__getattr__" = some none
  cl : findIn K (.ref C) "__class__" = some (some (.builtin "object.__class__"))
  ty : typeIn K (.ref C) = some (.type "type")
  kp : keepIn K (.ref C) = true
  sp : specialIn K (.builtin "object.__class__") "__get__" = some (some (.builtin "getset_descriptor.__get__"))
  tk : takesIn K (.builtin "object.__class__") = some true
  nf : ∀ f ∈ fs, findIn K (.ref C) f = some none
section
variable {K : PySem.W.Frag} {C C2 : Addr} {ups upd' : List Addr} {fs fs' : List Str}
theorem err_of (h : errChk K C ups fs = true) : Err K C ups fs := by
  unfold errChk at h
  simp only [Bool.and_eq_true, decide_eq_true_eq, List.all_eq_true] at h
  obtain ⟨h0, h1, h2, h3, h4, h5, h6, h7, h8, h9⟩ := h
  refine ⟨?_, h1, h2, h3, h4, h5, h6, h7, h8, h9⟩
  unfold clsChk at h0
  split at h0
  · rename_i dd cd sl ho
    split at h0
    · rename_i k0 k1 k2 k3 n k5 hs
      simp only [Bool.and_eq_true, beq_iff_eq, Bool.not_eq_true'] at h0
      obtain ⟨hn, hd, hh, hm⟩ := h0
      obtain ⟨nm, bs, mro, N, q, hdct, sn, sub, ab, col, del⟩ := cd
      obtain ⟨l⟩ := sl
      have hs' : l = [k0, k1, k2, k3, some (.builtin n), k5] := hs
      dsimp only at hd hh hm
      subst hs' hn hd hh hm
      exact ⟨nm, q, N, bs, sn, sub, ab, col, dd, k0, k1, k2, k3, k5, ho⟩
    · cases h0
  · cases h0
theorem Err.cls (E : Err K C ups fs) : ∃ cd, clsIn K C = some cd ∧ cd.mro = Value.ref C :: (ups.map Value.ref ++ errTail) ∧ cd.hasDict = true := by
  obtain ⟨nm, q, N, bs, sn, sub, ab, col, dd, k0, k1, k2, k3, k5, ho⟩ := E.obj
  refine ⟨_, by unfold clsIn; rw [ho], rfl, rfl⟩
theorem Err.mro (E : Err K C ups fs) (v : Value) : subIn K (.ref C) v = some ((Value.ref C :: (ups.map Value.ref ++ errTail)).contains v) := by
  obtain ⟨cd, h1, h2, _⟩ := E.cls
  show mroIn K C v = _
  unfold mroIn
  rw [h1, Option.bind_some, h2]
  rfl
theorem refs_tail : ∀ l : List Addr, PySem.HandSPX.refsVE (l.map Value.ref ++ errTail) = true
  | [] => by decide +kernel
  | _ :: r => refs_tail r
theorem tail_mem (T : String) (l : List Addr) : (l.map Value.ref ++ errTail).contains (.type T) = errTail.contains (.type T) := by
  induction l with
  | nil => rfl
  | cons a r ih =>
    rw [List.map_cons, List.cons_append, List.contains_cons, ih]
    rfl
theorem Err.isB (E : Err K C ups fs) {T : String} (h : errTail.contains (.type T) = true := by decide +kernel) : subIn K (.ref C) (.type T) = some true := by
  rw [E.mro, List.contains_cons, tail_mem, h, Bool.or_true]
theorem Err.hasD (E : Err K C ups fs) : hasDictIn K C = true := by
  obtain ⟨cd, h1, _, h3⟩ := E.cls
  unfold hasDictIn
  rw [h1]
  exact h3
theorem Err.oex (E : Err K C ups fs) : OexC K C where
  cls := by
    obtain ⟨nm, q, N, bs, sn, sub, ab, col, dd, k0, k1, k2, k3, k5, ho⟩ := E.obj
    exact ⟨nm, q, N, bs, _, sn, sub, ab, col, dd, k0, k1, k2, k3, k5, ho, refs_tail ups⟩
  sa := E.sa
  exC := E.isB
  tyC := E.ty
  kC := E.kp
theorem mem_refs (l : List Addr) (D : Addr) : (l.map Value.ref ++ errTail).contains (.ref D) = decide (D ∈ l) := by
  induction l with
  | nil => simp [errTail]
  | cons a r ih =>
    rw [List.map_cons, List.cons_append, List.contains_cons, ih]
    by_cases h : D = a
    · subst h; simp
    · have : (Value.ref D == Value.ref a) = false := by simpa using h
      rw [this, Bool.false_or]
      simp [h]
/-- of which classes an error of the class C is -/
def isOf (C : Addr) (ups : List Addr) (D : Addr) : Bool := decide (D = C) || decide (D ∈ ups)
theorem Err.sub (E : Err K C ups fs) (D : Addr) : subIn K (.ref C) (.ref D) = some (isOf C ups D) := by
  rw [E.mro, List.contains_cons, mem_refs]
  unfold isOf
  by_cases h : D = C
  · subst h; simp
  · have : (Value.ref D == Value.ref C) = false := by simpa using h
    rw [this, decide_eq_false h]
theorem Err.kit (E : Err K C ups fs) (F : Err K C2 upd' fs') : kitOne K (.ref C) (.ref C2) = some (isOf C ups C2) := by
  unfold kitOne
  by_cases h : C = C2
  · subst h
    rw [if_pos (by simp)]
    simp [isOf]
  · rw [if_neg (by simpa using h)]
    obtain ⟨cd, h1, _⟩ := F.cls
    show (if _ then _ else _) = _
    rw [if_pos (by rw [h1, F.ty]; rfl)]
    exact E.sub C2
theorem Err.kitB (E : Err K C ups fs) {T : String} (hm : PySem.W.kitMeta T = true := by decide +kernel) (h : errTail.contains (.type T) = true := by decide +kernel) : kitOne K (.ref C) (.type T) = some true := by
  unfold kitOne
  rw [if_neg (by simp)]
  show (if _ then _ else _) = _
  rw [if_pos hm]
  exact E.isB h
theorem Err.exm (E : Err K C ups fs) (F : Err K C2 upd' fs') : exmOne K (.ref C) (.ref C2) = some (isOf C ups C2) := by
  unfold exmOne
  rw [if_pos (by rw [F.isB]; rfl)]
  obtain ⟨cd, h1, _⟩ := F.cls
  show (if _ then _ else _) = _
  rw [if_pos (by rw [h1, F.ty]; rfl)]
  exact E.sub C2
theorem Err.classG {prog : Program} {w : World} {A : Around} {E1 : Value → Shared → Prop} {s : Shared} {Q : Option Value → Shared → Prop} {x : Addr} {ox : Obj} {od : Option Obj} (F : Err K C ups fs) (hin : K.In s.heap) (I : InstAt s.heap x ox C od)
    (h : Q (some (.ref C)) { s with toks := s.toks + 1 }) : wpAny (model prog w) A (getAttr? (.ref x) "__class__") Q E1 s := by
  obtain ⟨cd, hcd, _⟩ := F.cls
  have hf : findObj K C od "__class__" = some (.bind (.builtin "getset_descriptor.__get__") (.builtin "object.__class__")) := by
    unfold findObj
    rw [hcd, Option.bind_some, F.cl, Option.bind_some]
    simp [F.sp, F.tk]
  have hm : mroIn K C (.type "object") = some true := F.isB (T := "object")
  obtain ⟨hp, gs, dr, tk, os⟩ := s
  have l0 := I.type (M := model prog w)
  have l1 := looks_findIn (M := model prog w) hin F.ga
  have l2 := looks_findIn (M := model prog w) hin F.gg
  have l3 := looks_find (M := model prog w) hin I hf
  have inst : Looks (model prog w) hp (isInstance (.ref x) (.type "BaseException")) true := l0.andThen (looks_subIn hin (F.isB (T := "BaseException")))
  have n2 : (Value.builtin "BaseException.__getattribute__" == Value.builtin "object.__getattribute__") = false := by decide +kernel
  unfold getAttr? getAttrBy? getAttrBy
  refine wpAny_bind (wpAny_mkText (wpAny_bind (wpAny_attempt (wpAny_holding (wpAny_bind (l0.at (wpAny_bind (l1.at ?_))))))))
  show wpAny _ _ (if (onTheHeap (Value.ref C) && (Value.builtin "BaseException.__getattribute__" == Value.builtin "object.__getattribute__")) = true then _ else _) _ _ _
  rw [n2, Bool.and_false, if_neg Bool.false_ne_true]
  unfold getAttrByItsOwn hookBefore
  refine wpAny_bind ?_
  rw [if_pos (show onTheHeap (Value.ref C) = true from rfl)]
  refine l2.at (wpAny_bind (wpAny_attempt (wpAny_holding ?_)))
  unfold callGetattribute
  rw [if_neg (show ¬ ((false && onTheHeap (Value.builtin "BaseException.__getattribute__")) = true) from Bool.false_ne_true)]
  unfold boundAndCalled
  rw [PySem.F.excAttr_ValueError.ga.bind (.ref x)]
  refine wpAny_bind (wpAny_pure ?_)
  show wpAny _ _ (call (.builtin "BaseException.__getattribute__") [.ref x, .str "__class__" tk]) _ _ _
  refine wpAny_call (codeAny_call_builtin PySem.F.excAttr_ValueError.ga.plain PySem.F.entry_bexc_ga ?_)
  refine @PySem.W.check_slot (model prog w) _ _ ⟨hp, gs, dr, tk + 1, os⟩ "BaseException.__getattribute__" "BaseException" "__getattribute__" (.ref x) [.str "__class__" tk] [] _
    (by decide +kernel) (by decide +kernel) inst (PySem.F.args_bexc_ga (.ref x) (.str "__class__" tk)) ?_
  unfold Builtin.«object.__getattribute__»
  refine wpAny_bind (wpAny_of_eq (a := ((Value.ref x : Value), [Value.str "__class__" tk])) (by first | rfl | (simp only [slotArgs]; rfl)) ?_)
  refine wpAny_bind (wpAny_pure (wpAny_bind (l0.at (wpAny_bind (l3.at ?_)))))
  show wpAny _ _ (holding [Value.builtin "object.__class__"] (call (.builtin "getset_descriptor.__get__") [.builtin "object.__class__", .ref x, .ref C]) >>= ret) _ _ _
  refine wpAny_bind (wpAny_holding (wpAny_call (PySem.W.class_get (s := ⟨hp, gs, dr, tk + 1, os⟩) (ox := ox) (od := od) hin I hm (wpAny_pure ?_))))
  show wpAny _ _ (handedOut (.ref C)) _ _ _
  rw [PySem.W.handedOut_of (v := .ref C) rfl]
  first
    | exact wpAny_pure (wpAny_pure h)
    | exact wpAny_pure h
    | exact wpAny_pure (wpAny_bind (wpAny_pure (wpAny_pure h)))
theorem Err.kitx (F : Err K C ups fs) {x : Addr} {ox : Obj} {od : Option Obj} : PySem.W.KitX K (.ref x) (.ref C) (fun h => InstAt h x ox C od) where
  ty := fun _ _ _ I => I.type
  it := fun _ _ hin _ => by
    obtain ⟨nm, q, N, bs, sn, sub, ab, col, dd, k0, k1, k2, k3, k5, ho⟩ := F.obj
    intro A' Q' E' s' kk qq
    unfold isType loadHead
    exact wpAny_bind (wpAny_loadPart (kk _ _ (hin _ _ ho)) (wpAny_pure qq))
  ne := fun h tp dd its n sl hin htp => by
    obtain ⟨nm, q, N, bs, sn, sub, ab, col, dd, k0, k1, k2, k3, k5, ho⟩ := F.obj
    refine Bool.eq_false_iff.mpr fun z => ?_
    have e : C = tp := Value.ref.inj (beq_iff_eq.mp z)
    subst e
    have z := Option.some.inj ((hin _ _ ho).symm.trans htp)
    have z2 : Value.type "type" = Value.type "tuple" := congrArg Obj.cls z
    exact absurd z2 (by decide +kernel)
  ca := fun hin I k => F.classG hin I k

/-! ### raise -/
/-- how __init__(self, f1, ..): self.f1 = f1; .. leaves the new error: by its fields, the last stored first -/
def spInit (C : Addr) (n : Nat) (mk : List V → List (Str × V)) : Sp := fun vs H Q _ => ∃ a ws, vs = .ref a :: ws ∧ ws.length = n ∧ H a = some (exo a C none) ∧ ∀ dx, H dx = none → dx ≠ a → Q .non (upd (upd H dx (exd dx (mk ws))) a (exo a C (some dx)))
section
variable {P : Program} {w : World} {mg : Str → Option Value} {base : Heap} {f fI : Addr} {fd : FuncData} {st : Stmt} {qual : Str}
theorem upd_swap {H : Hp} {a b : Addr} {o u : HO} (h : a ≠ b) : upd (upd H a o) b u = upd (upd H b u) a o := by
  funext c
  by_cases h1 : c = a
  · subst h1; rw [upd_ne h, upd_same, upd_same]
  · by_cases h2 : c = b
    · subst h2; rw [upd_same, upd_ne h1, upd_same]
    · rw [upd_ne h2, upd_ne h1, upd_ne h1, upd_ne h2]
/-- self.f = p, .. one by one -/
theorem upd3 {H : Hp} {a b : Addr} {o o2 u : HO} (h : a ≠ b) : upd (upd (upd H a o) b u) a o2 = upd (upd H a o2) b u := by
  rw [upd_swap h, upd_upd, upd_swap h.symm]
theorem init1 {f1 p1 : Str} (F : Fun K "__init__" qual st fI fd) (E : Err K C ups fs) (S : FnScope [("self" : Str), p1] [("self" : Str), p1] (defScope st)) (h1 : f1 ∈ fs)
    (der : ∀ X : Cx, X.K = K → X.env.scope = defScope st → X.N = [("self" : Str), p1] → PSs X (defBody st) (tOst K f1 (tVar 0) (tVar 1))) :
    FnOk P w K mg base CX0 1 fI fd [("self" : Str), p1] (spInit C 1 fun ws => (([f1] : List Str).zip ws).reverse) := by
  refine F.ok S (fun vs H Q E0 h => ?_) (fun cdv A outer s H vs Q E0 hr h => ⟨_, der _ rfl rfl rfl, ?_⟩)
  · obtain ⟨a, ws, rfl, hl, _⟩ := h
    simp [hl]
  · obtain ⟨a, ws, rfl, hl, ha, k⟩ := h
    match ws, hl with
    | [v1], _ => exact ⟨v1, rfl, .ref a, rfl, a, C, rfl, E.oex, E.nf _ h1, .inl ⟨ha, fun dx hd ne => k dx hd ne⟩⟩
theorem init2 {f1 f2 p1 p2 : Str} (F : Fun K "__init__" qual st fI fd) (E : Err K C ups fs) (S : FnScope [("self" : Str), p1, p2] [("self" : Str), p1, p2] (defScope st)) (h1 : f1 ∈ fs) (h2 : f2 ∈ fs)
    (der : ∀ X : Cx, X.K = K → X.env.scope = defScope st → X.N = [("self" : Str), p1, p2] → PSs X (defBody st) (tSeq (tOst K f1 (tVar 0) (tVar 1)) (tOst K f2 (tVar 0) (tVar 2)))) :
    FnOk P w K mg base CX0 1 fI fd [("self" : Str), p1, p2] (spInit C 2 fun ws => (([f1, f2] : List Str).zip ws).reverse) := by
  refine F.ok S (fun vs H Q E0 h => ?_) (fun cdv A outer s H vs Q E0 hr h => ⟨_, der _ rfl rfl rfl, ?_⟩)
  · obtain ⟨a, ws, rfl, hl, _⟩ := h
    simp [hl]
  · obtain ⟨a, ws, rfl, hl, ha, k⟩ := h
    match ws, hl with
    | [v1, v2], _ =>
      refine ⟨v1, rfl, .ref a, rfl, a, C, rfl, E.oex, E.nf _ h1, .inl ⟨ha, fun dx hd ne => ?_⟩⟩
      refine ⟨v2, rfl, .ref a, rfl, a, C, rfl, E.oex, E.nf _ h2, .inr ⟨dx, _, upd_same, (by rw [upd_ne ne, upd_same]), by simp, ?_⟩⟩
      rw [upd3 ne]
      exact k dx hd ne
theorem init3 {f1 f2 f3 p1 p2 p3 : Str} (F : Fun K "__init__" qual st fI fd) (E : Err K C ups fs) (S : FnScope [("self" : Str), p1, p2, p3] [("self" : Str), p1, p2, p3] (defScope st)) (h1 : f1 ∈ fs) (h2 : f2 ∈ fs) (h3 : f3 ∈ fs)
    (der : ∀ X : Cx, X.K = K → X.env.scope = defScope st → X.N = [("self" : Str), p1, p2, p3] → PSs X (defBody st) (tSeq (tOst K f1 (tVar 0) (tVar 1)) (tSeq (tOst K f2 (tVar 0) (tVar 2)) (tOst K f3 (tVar 0) (tVar 3))))) :
    FnOk P w K mg base CX0 1 fI fd [("self" : Str), p1, p2, p3] (spInit C 3 fun ws => (([f1, f2, f3] : List Str).zip ws).reverse) := by
  refine F.ok S (fun vs H Q E0 h => ?_) (fun cdv A outer s H vs Q E0 hr h => ⟨_, der _ rfl rfl rfl, ?_⟩)
  · obtain ⟨a, ws, rfl, hl, _⟩ := h
    simp [hl]
  · obtain ⟨a, ws, rfl, hl, ha, k⟩ := h
    match ws, hl with
    | [v1, v2, v3], _ =>
      refine ⟨v1, rfl, .ref a, rfl, a, C, rfl, E.oex, E.nf _ h1, .inl ⟨ha, fun dx hd ne => ?_⟩⟩
      refine ⟨v2, rfl, .ref a, rfl, a, C, rfl, E.oex, E.nf _ h2, .inr ⟨dx, _, upd_same, (by rw [upd_ne ne, upd_same]), by simp, ?_⟩⟩
      rw [upd3 ne]
      refine ⟨v3, rfl, .ref a, rfl, a, C, rfl, E.oex, E.nf _ h3, .inr ⟨dx, _, upd_same, (by rw [upd_ne ne, upd_same]), by simp, ?_⟩⟩
      rw [upd3 ne]
      exact k dx hd ne
end
/-- raise C(e, ..) -/
def dRaise (C : Addr) (fl : List Str) (Wd : DXS) (a : DA) : DS := fun _ ρ M => a ρ M fun ds M1 => ds.length = fl.length ∧ Wd C (fl.zip ds) ρ M1
theorem zip_look {K : PySem.W.Frag} {G : Hp} : ∀ {fl : List Str} {ds : List D} {vs : List V}, Reps K G ds vs → ∀ f d, (fl.zip ds).lookup f = some d → ∃ v, (fl.zip vs).lookup f = some v ∧ Rep K G d v
  | [], _, _, _, f, d, e => by simp at e
  | _ :: _, [], _, _, f, d, e => by simp at e
  | g :: fl, d0 :: ds, _, h, f, d, e => by
    unfold Reps at h
    obtain ⟨v, ws, rfl, p, q⟩ := h
    rw [List.zip_cons_cons, List.lookup_cons] at e ⊢
    by_cases hf : f = g
    · subst hf
      simp only [beq_self_eq_true] at e ⊢
      cases e
      exact ⟨v, rfl, p⟩
    · have : (f == g) = false := by simpa using hf
      rw [this] at e ⊢
      exact zip_look q f d e
theorem lookup_rev {α β : Type} [BEq α] [LawfulBEq α] : ∀ {l : List (α × β)} {k : α}, (l.map (·.1)).Nodup → l.reverse.lookup k = l.lookup k
  | [], _, _ => rfl
  | (a, b) :: r, k, h => by
    have hn : a ∉ r.map (·.1) := (List.nodup_cons.mp h).1
    have ih := lookup_rev (k := k) (List.nodup_cons.mp h).2
    rw [List.reverse_cons, List.lookup_append, ih, List.lookup_cons, List.lookup_cons]
    by_cases e : k = a
    · subst e
      have z : r.lookup k = none := by
        rw [List.lookup_eq_none_iff]
        intro p hp
        have : k ≠ p.1 := fun q => hn (q ▸ List.mem_map_of_mem hp)
        simpa using this
      rw [z]
      simp
    · have : (k == a) = false := by simpa using e
      rw [this]
      cases r.lookup k <;> simp
theorem map_zip_fst {α β : Type} : ∀ (l : List α) (m : List β), l.length = m.length → (l.zip m).map (·.1) = l
  | [], _, _ => by simp
  | a :: l, b :: m, h => by
    rw [List.zip_cons_cons, List.map_cons, map_zip_fst l m (by simpa using h)]
  | _ :: _, [], h => by simp at h
section
variable {X : Cx} {G0 : Hp} {x : Str} {p pos pos2 : Pos} {e : Expr} {es : List Expr} {ad : DA} {Wd : DXS} {fI : Addr} {fd : FuncData} {ps fl : List Str} {k : Nat}
theorem ds_raise (hc : X.calm = true) (tk : Takes X (upW X.K G0 Wd)) (E : Err X.K C ups fs) (iC : findIn X.K (.ref C) "__init__" = some (some (.ref fI))) (tI : typeIn X.K (.ref fI) = some (.type "function"))
    (F1 : FnOk X.prog X.w X.K X.mg X.base CX0 k fI fd ps (spInit C fl.length fun ws => (fl.zip ws).reverse)) (hr : RoomG (k + 1) X.A) (hb : Binds X.K fd ps []) (hm : X.mg x = some (.ref C)) (hnd : fl.Nodup) (h9 : fl.length ≤ 900) (ha : PA X (e :: es) (upA X.K G0 ad)) (hg : Gl X x := by rfl)
    (hdb : (x == ("__debug__" : Str)) = false := by decide) (he : starEach (e :: es) X.env = (false, eval e X.env) :: starEach es X.env := by rfl) (hpl : (backTo pos (starEach es X.env)).any (·.1) = false := by rfl) :
    PS X (.Raise (some (.Call (.Name x p) (e :: es) [] pos)) none pos2) (upS X.K G0 (dRaise C fl Wd ad)) :=
  ps_mono (ps_raise hc tk (pmk_oex E.oex iC tI F1 hr.room hb .nil (fun _ _ _ _ _ _ _ z => False.elim z) hg hm ha hdb he hpl)) fun D σ H h => by
    obtain ⟨ρ, M, G, Dd, s0, rl, l, h, k1, k2, k3, k4⟩ := h
    refine ⟨ρ, M, G, _, s0, rl, l, h, fun ds M1 G1 vs H1 s1 r1 p1 q1 => ?_⟩
    obtain ⟨hl, q⟩ := q1
    have hlv : vs.length = fl.length := by rw [← p1.length]; exact hl
    refine ⟨by rw [hlv]; omega, fun a ha => ?_⟩
    have ga := r1.free ha
    rw [List.append_nil]
    refine ⟨a, vs, rfl, hlv, upd_same, fun dx hd ne => ⟨rfl, dx, _, upd_same, (by rw [upd_ne ne, upd_same]), ?_, ?_⟩⟩
    · rw [upd_ne ne] at hd; exact hd
    · have hd1 : H1 dx = none := by rw [upd_ne ne] at hd; exact hd
      have gd := r1.free hd1
      have eH : upd (del (upd (upd (upd H1 a (exo a C none)) dx (exd dx ((fl.zip vs).reverse))) a (exo a C (some dx))) a) dx (.xd ((fl.zip vs).reverse)) = upd H1 dx (.xd ((fl.zip vs).reverse)) := by
        funext b
        by_cases h1 : b = dx
        · subst h1; rw [upd_same, upd_same]
        · rw [upd_ne h1, upd_ne h1]
          by_cases h2 : b = a
          · subst h2; rw [del_same, ha]
          · rw [del_ne h2, upd_ne h2, upd_ne h1, upd_ne h2]
      rw [eH]
      refine ⟨C, fl.zip ds, ρ, M1, upd G1 dx (.xd ((fl.zip vs).reverse)), (s0.trans s1).trans (same_upd gd), r1.laid hd1 _, (l.mono s1).mono (same_upd gd), rfl, .inr ⟨dx, _, rfl, upd_same, fun f d e => ?_⟩, q⟩
      obtain ⟨v, ev, pv⟩ := zip_look p1 f d e
      refine ⟨v, ?_, pv.mono (same_upd gd)⟩
      rw [lookup_rev (by rw [map_zip_fst _ _ hlv.symm]; exact hnd)]
      exact ev
end
end
end Dq
/-! The deep layer, part 5: try, what is done with a caught error, repr. -/
namespace Dq
open PySem PySem.Spec PyProof.Rows L2
open PySem.W (findIn typeIn subIn keepIn hasDictIn specialIn takesIn mroIn clsIn InstAt Looks looks_findIn looks_find looks_subIn findObj kitOne kitCls exmOne)
section
variable {X : Cx} {G0 : Hp} {K : PySem.W.Frag} {C C2 : Addr} {ups upd' : List Addr} {fs fs' : List Str} {x : Str} {p pos pos2 : Pos} {e a b : Expr} {es : List Expr} {ad : DA} {de da db : DE} {ts us : DS} {Wd : DXS} {fd : FuncData} {ps fl : List Str} {k : Nat}
/-- raise C() of a class without own __init__ -/
theorem pmk_bare {bmB : List Value} {B newId initId : String} (F : ExcBaseFacts B newId initId bmB) (q : PySem.W.excIn X.K C bmB newId = true) (gC : X.mg x = some (.ref C)) (kC : keepIn X.K (.ref C) = true) (r : Raises X (.ref C)) (hg : Gl X x) (hdb : (x == ("__debug__" : Str)) = false := by decide) :
    PMk X (.Call (.Name x p) [] [] pos) (fun σ H Q => Q (.ref C) none H) := by
  intro pins s σ H Q I h
  refine wpAny_Call_Name_kw (ld_glob I hg gC ?_ hdb)
  refine PySem.W.callWith_K0 I.kIn kC ?_
  show wpAny _ _ (call (.ref C) []) _ _ _
  obtain ⟨bm, N, nm, qn, bs, hdct, sn, sub, ab, col, dd, k0, k1, k2, k3, k5, mN, hC, hN, hni, T⟩ := exc_obj I.kIn q
  exact wpAny_call_exc_subT F T hC hN hni (fun h' e hm => mk_of I hm r h (I.hok.gone hm.new)) (by show 0 ≤ sizeLine; exact Nat.zero_le _)
def dRaise0 (C : Addr) (Wd : DXS) : DS := fun _ ρ M => Wd C [] ρ M
theorem ds_raise0 (hc : X.calm = true) (tk : Takes X (upW X.K G0 Wd)) (E : Err X.K C ups fs) (q : PySem.W.excIn X.K C errTail "ValueError.__new__" = true) (hm : X.mg x = some (.ref C)) (hg : Gl X x := by rfl) (hdb : (x == ("__debug__" : Str)) = false := by decide) :
    PS X (.Raise (some (.Call (.Name x p) [] [] pos)) none pos2) (upS X.K G0 (dRaise0 C Wd)) :=
  ps_mono (ps_raise hc tk (pmk_bare PySem.F.excBase_ValueError q hm E.kp (raises_own E.isB E.ty) hg hdb)) fun D σ H h => by
    obtain ⟨ρ, M, G, Dd, s0, rl, l, h, k1, k2, k3, k4⟩ := h
    exact ⟨C, [], ρ, M, G, s0, rl, l, rfl, .inl ⟨rfl, rfl⟩, h⟩

/-! ### a caught error: its object p, its class, its fields -/
structure ExcAt (K : PySem.W.Frag) (G : Hp) (q : Addr × Obj) (C : Addr) (fl : List (Str × D)) : Prop where
  z : ∃ d, Zc (.ref C) d q.2 ∧ XdR K G G d fl
  f : ∃ vs, q.2.data = .fields vs
theorem ExcAt.mono {G G' : Hp} {q : Addr × Obj} {fl : List (Str × D)} (h : ExcAt K G q C fl) (s : Same G G') : ExcAt K G' q C fl := by
  obtain ⟨⟨d, h1, h2⟩, h3⟩ := h
  refine ⟨⟨d, h1, ?_⟩, h3⟩
  rcases h2 with h2 | ⟨dd, ws, e1, e2, e3⟩
  · exact .inl h2
  · exact .inr ⟨dd, ws, e1, s _ _ e2, e3.mono s⟩
/-- its instance, for the library -/
theorem ExcAt.inst {q : Addr × Obj} {fl : List (Str × D)} {pins : List (Addr × Obj)} {σ : St} {H : Hp} {s : Shared} (h : ExcAt K G0 q C fl) (I : Inv X pins σ H s) (hq : q ∈ X.pn) (sm : Same G0 H) :
    ∃ od, InstAt s.heap q.1 q.2 C od ∧ ∀ f d, fl.lookup f = some d → ∃ o v u, od = some o ∧ PySem.W.lookIn f o = some (some u) ∧ RelV v u ∧ Rep K G0 d v := by
  obtain ⟨⟨d, hz, hx⟩, vs, hd⟩ := h
  have hp := (I.pin q (List.mem_append_left _ hq)).1
  have hn : PySem.W.notCls q.2 = true := by unfold PySem.W.notCls; rw [hd]
  rcases hx with ⟨e1, e2⟩ | ⟨dd, ws, e1, e2, e3⟩
  · subst e1 e2
    refine ⟨none, ⟨hp, hz.1, hn, by rw [hz.2]; trivial⟩, fun f d e => by simp at e⟩
  · subst e1
    have hx : ObjOk X.prog X.w H s.heap dd (.xd ws) := I.hok dd _ (sm _ _ e2)
    obtain ⟨mA, hns, hr⟩ := hx
    obtain ⟨od, ho, hl⟩ := lookIn_ns hns
    refine ⟨some od, ⟨hp, hz.1, hn, by rw [hz.2]; exact ho⟩, fun f d e => ?_⟩
    obtain ⟨v, ev, pv⟩ := e3 f d e
    obtain ⟨u, hu, ru⟩ := RelO.some_of (v := v) (o := mA f) (by rw [← ev]; exact hr f)
    exact ⟨od, v, u, rfl, by rw [hl, hu], ru, pv⟩
/-- isinstance(e, C2), e the caught error; isinstance(e, ValueError) -/
def cIsE (q : Addr) (r : D → Option Bool) : RDC := fun ds M Q => match ds with
  | [.ref a, c] => a = q ∧ (match r c with | some k => Q (.bl k) M | none => False)
  | _ => False
theorem isE_ok {q : Addr × Obj} {fl : List (Str × D)} {r : D → Option Bool} (E : Err X.K C ups fs) (h : ExcAt X.K G0 q C fl) (hq : q ∈ X.pn)
    (hr : ∀ c k, r c = some k → ∃ cv, (∀ v u, Rep X.K (fun _ => none) c v → RelV v u → u = cv) ∧ (∀ G v, Rep X.K G c v → Rep X.K (fun _ => none) c v) ∧ kitOne X.K (.ref C) cv = some k) :
    CallR X (.builtin "isinstance") (fun xs H Q => Same G0 H ∧ upC X.K (cIsE q.1 r) xs H Q) := by
  intro pins s σ H xs uu Q I rv hh
  obtain ⟨sm, M, G, ds, Qd, rl, rp, hh, kk⟩ := hh
  unfold cIsE at hh
  split at hh
  · rename_i a1 c
    obtain ⟨ea, hh⟩ := hh
    subst ea
    cases z : r c with
    | none => rw [z] at hh; exact hh.elim
    | some kb =>
      rw [z] at hh
      obtain ⟨cv, h1, h2, h3⟩ := hr c kb z
      obtain ⟨v1, v2, e, p1, p2⟩ := reps2 rp
      subst e
      have e1 := rep_ref p1
      subst e1
      cases rv with
      | cons rx rr =>
        cases rr with
        | cons rt rr =>
          cases rr
          cases rx
          have ec := h1 _ _ (h2 _ _ p2) rt
          subst ec
          obtain ⟨od, J, _⟩ := h.inst I hq sm
          exact PySem.W.kia_one E.kitx I.kIn J h3 (fun z => nomatch z) fun tk => ⟨.bl kb, H, I.kept (t' := tk) fun _ _ z => z, rfl, kk (.bl kb) M G _ H (Same.refl _) rl (flat_rep rfl) hh⟩
  · exact hh.elim
/-- which classes are asked for -/
def rErr (errs : List Addr) (C : Addr) (ups : List Addr) : D → Option Bool
  | .ref c => if c ∈ errs then some (isOf C ups c) else none
  | .ty n => if n = "ValueError" then some true else none
  | _ => none
theorem rErr_ok {errs : List Addr} (E : Err K C ups fs) (all : ∀ c ∈ errs, ∃ u f, Err K c u f) : ∀ c k, rErr errs C ups c = some k →
    ∃ cv, (∀ v u, Rep K (fun _ => none) c v → RelV v u → u = cv) ∧ (∀ G v, Rep K G c v → Rep K (fun _ => none) c v) ∧ kitOne K (.ref C) cv = some k := by
  intro c kb h
  cases c with
  | ref a =>
    have h' : (if a ∈ errs then some (isOf C ups a) else none) = some kb := h
    by_cases hm : a ∈ errs
    · rw [if_pos hm] at h'
      cases h'
      obtain ⟨u, f, F⟩ := all a hm
      exact ⟨.ref a, fun v u p r => by rw [rep_ref p] at r; exact r, fun G v p => by unfold Rep at p ⊢; exact p, E.kit F⟩
    · rw [if_neg hm] at h'; cases h'
  | ty n =>
    have h' : (if n = "ValueError" then some true else none) = some kb := h
    by_cases hn : n = "ValueError"
    · rw [if_pos hn] at h'
      cases h'
      subst hn
      refine ⟨.type "ValueError", fun v u p r => ?_, fun G v p => by unfold Rep at p ⊢; exact p, E.kitB⟩
      unfold Rep at p
      subst p
      exact r
    · rw [if_neg hn] at h'; cases h'
  | _ => cases h
theorem de_isE {q : Addr × Obj} {fl : List (Str × D)} {r : D → Option Bool} (E : Err X.K C ups fs) (h : ExcAt X.K G0 q C fl) (hq : q ∈ X.pn)
    (hr : ∀ c k, r c = some k → ∃ cv, (∀ v u, Rep X.K (fun _ => none) c v → RelV v u → u = cv) ∧ (∀ G v, Rep X.K G c v → Rep X.K (fun _ => none) c v) ∧ kitOne X.K (.ref C) cv = some k)
    (hg : Gl X "isinstance") (hm : X.mg "isinstance" = none) (ha : PA X (e :: es) (upA X.K G0 ad)) (he : starEach (e :: es) X.env = (false, eval e X.env) :: starEach es X.env := by rfl) (hpl : (backTo pos (starEach es X.env)).any (·.1) = false := by rfl) :
    PE X (.Call (.Name "isinstance" p) (e :: es) [] pos) (up X.K G0 (dCall (cIsE q.1 r) ad)) :=
  pe_mono (pe_callB (isE_ok E h hq hr) hg hm (by decide +kernel) ha (by decide) (by decide) he hpl) fun σ H Q h => by
    obtain ⟨ρ, M, G, Qd, s0, rl, l, h, kk⟩ := h
    refine ⟨ρ, M, G, _, s0, rl, l, h, fun xs M1 G1 vs H1 s1 r1 p1 q1 => ?_⟩
    exact ⟨(s0.trans s1).trans r1.sub, M1, G1, xs, Qd, r1, p1, q1, fun d M' G' w H' s3 r3 p3 q3 => kk d M' G' w H' (s1.trans s3) r3 p3 q3⟩
/-- e.f -/
def dFld (q : Addr) (fl : List (Str × D)) (n : Str) (de : DE) : DE := fun ρ M Q => de ρ M fun d M1 => match d with
  | .ref a => a = q ∧ (match fl.lookup n with | some x => Q x M1 | none => False)
  | _ => False
theorem de_fld {q : Addr × Obj} {fl : List (Str × D)} {n : Str} (E : Err X.K C ups fs) (h : ExcAt X.K G0 q C fl) (hq : q ∈ X.pn) (hn : n ∈ fs) (he : PE X e (up X.K G0 de)) (hb : attributeBase e n X.env (eval e X.env) = eval e X.env := by rfl) :
    PE X (.Attribute e n pos) (up X.K G0 (dFld q.1 fl n de)) := by
  refine ⟨fun pins s σ H Q I hh => ?_⟩
  obtain ⟨ρ, M, G, Qd, s0, rl, l, hh, kk⟩ := hh
  refine attr_of hb (thn (he.run pins s σ H (fun v H1 => v = .ref q.1 ∧ Same G0 H1 ∧ ∃ x, fl.lookup n = some x ∧ ∀ w, Rep X.K G0 x w → Q w H1) I ⟨ρ, M, G, _, s0, rl, l, hh, fun d M1 G1 v H1 s1 r1 p1 q1 => ?_⟩) ?_)
  · split at q1
    · rename_i a
      obtain ⟨ea, q1⟩ := q1
      subst ea
      cases z : fl.lookup n with
      | none => rw [z] at q1; exact q1.elim
      | some x =>
        rw [z] at q1
        exact ⟨rep_ref p1, (s0.trans s1).trans r1.sub, x, rfl, fun w pw => kk x M1 G1 w H1 s1 r1 (pw.mono (s0.trans s1)) q1⟩
    · exact q1.elim
  · rintro u s1 ⟨v, H1, I1, r1, ev, sm, x, ex, kq⟩
    subst ev
    obtain rfl : u = Value.ref q.1 := r1
    obtain ⟨od, J, hf⟩ := h.inst I1 hq sm
    obtain ⟨o, w, u, eo, hl, ru, pw⟩ := hf n x ex
    subst eo
    exact HandSPX.exc_get I1.kIn J E.ga E.gg E.isB (PySem.W.findObj_own E.hasD (E.nf n hn) rfl hl) (handed_of ru) ⟨w, H1, I1.tok _, ru, kq w pw⟩

/-! ### defs called where an error is handled -/
structure RoomE (k : Nat) (A : Around) : Prop where
  room : L2H.RoomH k A
  gd : A.guards = some []
theorem RoomE.mono {j k : Nat} {A : Around} (r : RoomE k A) (h : j ≤ k) : RoomE j A := ⟨r.room.mono h, r.gd⟩
theorem RoomE.deeper {k : Nat} {A : Around} (r : RoomE (k + 1) A) (env : Env) : RoomE k (A.deeper env) := ⟨r.room.deeper env, r.gd⟩
/-- a promise that speaks of the handled error: where it is, its class, its fields -/
abbrev ESp := Addr → Addr → List (Str × D) → DSp
def upE (K : PySem.W.Frag) (sp : ESp) (q : Addr × Obj) : Sp := fun vs H Q E => ∃ M G ds Qd Ed C fl, RelH K M G H ∧ Reps K G ds vs ∧ ExcAt K G q C fl ∧ sp q.1 C fl ds M Qd Ed ∧
  (∀ d M' G' v H', Same G G' → RelH K M' G' H' → Rep K G' d v → Qd d M' → Q v H') ∧
  (∀ C fs M' G' d H', Same G G' → RelH K M' G' H' → XdR K G' H' d fs → Ed C fs M' → E (.ref C) d H')
structure FnE (P : Program) (w : World) (K : PySem.W.Frag) (mg : Str → Option Value) (base : Heap) (k : Nat) (f : Addr) (fd : FuncData) (ps : List Str) (sp : ESp) : Prop where
  len : ∀ q C fl ds M Q E, sp q C fl ds M Q E → ds.length = ps.length
  run : ∀ (A : Around) (outer : List Env) (s : Shared) (H : Hp) (args : Args) (uu : List Value) (vs : List V) (Q : VK) (E : XK) (q : Addr × Obj), RoomE k A → L2H.PinOk outer H s q → Env0 P w K mg base A outer s H →
    BindsTo s fd args (ps.zip uu) → Vals vs uu → upE K sp q vs H Q E → codeAny (model P w) A (.call (.ref f) args) (CR (L2.CX P w) outer P w H s Q E) s
theorem fnE_of {P : Program} {w : World} {mg : Str → Option Value} {base : Heap} {qual : Str} {st : Stmt} {f : Addr} {N : List Str} {sp : ESp} (F : Fun K x qual st f fd) (S : FnScope N ps (defScope st))
    (len : ∀ q C fl ds M Q E, sp q C fl ds M Q E → ds.length = ps.length) (B : Addr → Addr → List (Str × D) → DXS → DS)
    (der : ∀ (cdv : Value) (A : Around) (outer : List Env) (s : Shared) (H : Hp) (E : XK) (G0 : Hp) (Wd : DXS) (q : Addr × Obj) (C : Addr) (fl : List (Str × D)), RoomE k (A.deeper (envOfC qual (defScope st) s.heap.objs.size f cdv)) → ExcAt K G0 q C fl →
      (∃ ds M Q E, sp q.1 C fl ds M Q E) →
      Takes (L2H.cxH (L2.CX P w) P w K mg base N qual (defScope st) f cdv A outer s H E q) (upW K G0 Wd) →
      PSs (L2H.cxH (L2.CX P w) P w K mg base N qual (defScope st) f cdv A outer s H E q) (defBody st) (upS K G0 (B q.1 C fl Wd)))
    (pure : ∀ q C fl ds M Q E, sp q C fl ds M Q E → B q C fl (fun C fs _ M' => E C fs M') { nx := fun _ M' => Q .non M', rt := Q } (dstart N ds) M) : FnE P w K mg base (k + 1) f fd ps sp := by
  obtain ⟨oc, od, kV, doc, pm, an, cdv, ct, osl, rfl, lk, hcd⟩ := F.ex
  refine ⟨len, ?_⟩
  intro A outer s H args uu vs Q E q hr hpin e0 hb rv ⟨M, G, ds, Qd, Ed, C, fl, rl, rp, hx, hsp, kq, ke⟩
  have hl : vs.length = ps.length := rp.length.symm.trans (len _ _ _ _ _ _ _ hsp)
  have hin : K.In s.heap := e0.mod.kin.keeps fun b o z => (e0.bs b o z).1
  have lim := e0.mod.nolimit.keeps (h' := s.heap) fun b o z => (e0.bs b o z).1
  have knd : ∀ y ∈ ps.zip uu, (defScope st).names.lookup y.1 = some .local ∨ ((defScope st).names.lookup y.1 = some .cell ∧ ((cellsFrom (s.heap.objs.size + 1) (defScope st).names []).lookup y.1).isSome = true) := by
    rintro ⟨n, v⟩ hy
    exact (S.par n (List.of_mem_zip hy).1).imp (fun q => q) fun q => ⟨q, PySem.W.cellsFrom_some _ _ _ (.inl q)⟩
  refine codeAny_call_function hr.room.depth (hin _ _ lk) rfl S.co S.gen rfl (PySem.W.codeRec_of hin hcd) (hb _ _ _ _ ?_)
  refine wpAny_newFunctionEnv_cells S.kind knd fun env he s1 xx => ?_
  subst he
  refine ⟨lim.keeps xx.toInCall.keep, codeAny_func ?_⟩
  have I := L2H.inv_startH (CX := L2.CX P w) (E := E) (P := P) (w := w) (K := K) (mg := mg) (base := base) S hpin e0 hl rv xx
  have tk := takes_of (X := L2H.cxH (L2.CX P w) P w K mg base N qual (defScope st) f cdv A outer s H E q) (E := E) rfl rfl rfl rfl
  have tk2 : Takes (L2H.cxH (L2.CX P w) P w K mg base N qual (defScope st) f cdv A outer s H E q) (upW K G fun C fs _ M' => Ed C fs M') := tk.imp fun c d σ H' ⟨C, fs, ρ, M', G', s1, r1, _, e1, x1, q1⟩ => by
    subst e1
    exact ke C fs M' G' d H' s1 r1 x1 q1
  refine wpAny_mono ((der cdv A outer s H E G _ q C fl (hr.deeper _) hx ⟨_, _, _, _, hsp⟩ tk2).run [] s1 _ H { nx := fun _ H' => Q .non H', rt := Q } I ⟨dstart N ds, M, G, _, Same.refl _, rl, locs_start rp, pure _ _ _ _ _ _ _ hsp, ?_, ?_, ?_, ?_⟩) (fun flw s' hs => ?_) fun e s' hs => hs
  · exact fun ρ' M' G' σ' H' s r l q => kq .non M' G' .non H' s r (flat_rep rfl) q
  · exact fun d M' G' v H' s r p q => kq d M' G' v H' s r p q
  · exact fun _ _ _ _ _ _ _ _ q => q
  · exact fun _ _ _ _ _ _ _ _ q => q
  · cases flw with
    | ret u =>
      obtain ⟨v, σ', H', J, rv', q⟩ := hs
      exact ⟨v, H', J.os, J.bare, J.base, J.hok, rv', q⟩
    | next =>
      obtain ⟨σ', H', J, q⟩ := hs
      exact ⟨.non, H', J.os, J.bare, J.base, J.hok, rfl, q⟩
    | brk => obtain ⟨_, _, _, q⟩ := hs; exact q.elim
    | cont => obtain ⟨_, _, _, q⟩ := hs; exact q.elim
/-- f(e, ..) within an except suite -/
def dCallE (sp : ESp) (q C : Addr) (fl : List (Str × D)) (Wd : DXS) (a : DA) : DE := fun ρ M Q => a ρ M fun ds M1 => sp q C fl ds M1 Q fun C fs M' => Wd C fs ρ M'
theorem de_callE {q : Addr × Obj} {fl : List (Str × D)} {sp : ESp} {f : Addr} (F : FnE X.prog X.w X.K X.mg X.base k f fd ps sp) (hx : ExcAt X.K G0 q C fl) (hq : q ∈ X.pn) (hr : RoomE k X.A) (hg : Gl X x) (hm : X.mg x = some (.ref f)) (hk : PySem.W.keepIn X.K (.ref f) = true) (hb : Binds X.K fd ps [])
    (tk : Takes X (upW X.K G0 Wd)) (ha : PA X (e :: es) (upA X.K G0 ad)) (hdb : (x == ("__debug__" : Str)) = false := by decide) (he : starEach (e :: es) X.env = (false, eval e X.env) :: starEach es X.env := by rfl) (hpl : (backTo pos (starEach es X.env)).any (·.1) = false := by rfl) :
    PE X (.Call (.Name x p) (e :: es) [] pos) (up X.K G0 (dCallE sp q.1 C fl Wd ad)) := by
  refine ⟨fun pins s σ H Q I h => wpAny_Call_Name_kw (ld_glob I hg hm ?_ hdb)⟩
  have h2 : upA X.K G0 ad σ H fun vs H1 => upE X.K sp q vs H1 Q fun cls d H' => upW X.K G0 Wd cls d σ H' := by
    obtain ⟨ρ, M, G, Qd, s0, rl, l, h, kk⟩ := h
    refine ⟨ρ, M, G, _, s0, rl, l, h, fun ds M1 G1 vs H1 s1 r1 p1 q1 => ?_⟩
    refine ⟨M1, G1, ds, Qd, _, C, fl, r1, p1, hx.mono (s0.trans s1), q1, fun d M' G' v H' s2 r2 p2 q2 => kk d M' G' v H' (s1.trans s2) r2 p2 q2, fun C fs M' G' d H' s2 r2 x2 q2 => ?_⟩
    exact ⟨C, fs, ρ, M', G', (s0.trans s1).trans s2, r2, (l.mono s1).mono s2, rfl, x2, q2⟩
  refine PySem.W.callWith_K (h₀ := X.base) I.ok.mod.kin hk (thn (ha.run pos pins s σ H _ I h2) ?_) he hpl
  rintro uu s1 ⟨vs, H1, I1, r, hh⟩
  refine ⟨I1.kIn, ?_⟩
  have hl : uu.length = ps.length := by
    obtain ⟨M, G, ds, Qd, Ed, C', fl', rl, rp, _, hsp, _⟩ := id hh
    rw [← r.length, ← rp.length]
    exact F.len _ _ _ _ _ _ _ hsp
  have bb := hb s1 uu I1.kIn (by rw [List.append_nil]; exact hl)
  rw [List.append_nil] at bb
  have P1 := I1.pin q (List.mem_append_left _ hq)
  have hpin : L2H.PinOk X.stack H1 s1 q := ⟨P1.1, P1.2.1, fun hm => (List.mem_cons.mp (I1.stkSub q.1 hm)).elim P1.2.2.1 P1.2.2.2.1, P1.2.2.2.2⟩
  refine wpAny_call (codeAny_mono (F.run X.A X.stack s1 H1 ⟨uu, []⟩ uu vs Q _ q hr hpin I1.env0 bb r hh) fun res s' hq => ?_)
  match res, hq with
  | .error er, hq => exact tk er s' (XE.of_call I1 (fun _ _ _ z => z) hq)
  | .ok (.ret u), hq => exact I1.after hq

/-! ### try .. except C as n -/
def dTryAs (catch_ : Addr → Bool) (i : Nat) (b : DXS → DS) (su : Addr → Addr → List (Str × D) → DS) (Wd : DXS) : DS := fun D ρ M =>
  b (fun C fl ρ' M' => (catch_ C = true ∧ ∀ q, su q C fl { nx := fun ρ2 M2 => D.nx (ρ2.set i none) M2, rt := D.rt, bk := fun ρ2 M2 => D.bk (ρ2.set i none) M2, ct := fun ρ2 M2 => D.ct (ρ2.set i none) M2 } (ρ'.set i (some (.ref q))) M') ∨
    (catch_ C = false ∧ Wd C fl ρ' M')) D ρ M
theorem locs_none {ρ : Ds} {G : Hp} {σ : St} (h : Locs K ρ G σ) (i : Nat) : Locs K (ρ.set i none) G (σ.set i none) := by
  refine ⟨by rw [List.length_set, List.length_set]; exact h.len, fun j d e => ?_⟩
  by_cases hj : i = j
  · subst hj
    rcases Nat.lt_or_ge i ρ.length with z | z
    · rw [List.getElem?_set_self z] at e; cases e
    · rw [List.getElem?_eq_none (by rw [List.length_set]; exact z)] at e; cases e
  · rw [List.getElem?_set_ne hj] at e ⊢
    exact h.loc j d e
/-- an exception's dict never changes -/
theorem RelH.xd {M : Mm} {G H : Hp} {dd : Addr} {ws : List (Str × V)} (r : RelH K M G H) (h : H dd = some (.xd ws)) : Same G (upd G dd (.xd ws)) ∧ RelH K M (upd G dd (.xd ws)) H := by
  have s : Same G (upd G dd (.xd ws)) := fun b u e => by
    by_cases hb : b = dd
    · subst hb
      have := r.sub _ _ e
      rw [h] at this
      rw [upd_same, this]
    · rw [upd_ne hb]; exact e
  refine ⟨s, fun b u e => ?_, fun b u e => ?_⟩
  · by_cases hb : b = dd
    · subst hb; rw [upd_same] at e; rw [h, e]
    · rw [upd_ne hb] at e; exact r.sub _ _ e
  · obtain ⟨q1, q2⟩ := r.mem b u e
    have hb : b ≠ dd := fun z => by
      subst z
      cases u with
      | lst xs => obtain ⟨vs, e1, _⟩ := q2; rw [h] at e1; cases e1
      | dic xs => obtain ⟨vs, e1, _⟩ := q2; rw [h] at e1; cases e1
    exact ⟨by rw [upd_ne hb]; exact q1, q2.keep s rfl⟩
theorem ds_try_as {n : Str} {body suite : List Stmt} {b0 : Stmt} {np pos' : Pos} {i : Nat} {b : DXS → DS} {su : Addr → Addr → List (Str × D) → DS} {catch_ : Addr → Bool}
    (hs : X.stack = X.env :: X.outer) (hf : X.env.frame = some X.env.locals) (hN : X.N.Nodup) (hi : X.N[i]? = some n) (hln : X.env.kindOf n = some .local) (hc : Names X x (.ref C2)) (tk : Takes X (upW X.K G0 Wd))
    (hcatch : ∀ C, exmOne X.K (.ref C) (.ref C2) = some (catch_ C) ∨ ∀ fl ρ M, ¬ Wd C fl ρ M ∧ catch_ C = false)
    (hb : ∀ (W : DXS) (G1 : Hp) (pn : List (Addr × Obj)) (xe : Value → Shared → Prop), Takes (X.tr pn xe) (upW X.K G1 W) → PassesOwn (model X.prog X.w) X.A X.env xe → PSs (X.tr pn xe) body (upS X.K G1 (b W)))
    (hsu : ∀ (q : Addr × Obj) (C : Addr) (fl : List (Str × D)) (pn : List (Addr × Obj)) (G1 : Hp), ExcAt X.K G1 q C fl → catch_ C = true → PSs (X.suite q.1 (q :: pn)) (b0 :: suite) (upS X.K G1 (su q.1 C fl))) :
    PS X (.Try body [.ExceptHandler (some (.Name x np)) (some n) (b0 :: suite) pos'] [] [] pos) (upS X.K G0 (dTryAs catch_ i b su Wd)) := by
  refine ps_mono (ps_try_as (Wout := upW X.K G0 Wd) (tb := fun W D σ H => ∃ W' G1, (∀ c d σ H, upW X.K G1 W' c d σ H → W c d σ H) ∧ upS X.K G1 (b W') D σ H)
    (ts := fun q cls d D σ H => ∃ C fl G1, cls = .ref C ∧ catch_ C = true ∧ XdR X.K G1 G1 d fl ∧ upS X.K G1 (su q C fl) D σ H) hs hf hN hi hln hc tk ?_ ?_) ?_
  · intro W pn xe tkW hpo
    refine ⟨fun pins s σ H D I hh => ?_⟩
    obtain ⟨W', G1, h1, h2⟩ := hh
    exact (hb W' G1 pn xe (tkW.imp h1) hpo).run pins s σ H D I h2
  · intro a oe cls d pn hz hfl
    refine ⟨fun pins s σ H D I hh => ?_⟩
    obtain ⟨C, fl, G1, e1, hcc, hx, h2⟩ := hh
    subst e1
    exact (hsu (a, oe) C fl pn G1 ⟨⟨d, hz, hx⟩, hfl⟩ hcc).run pins s σ H D I h2
  · intro D σ H h
    obtain ⟨ρ, M, G, Dd, s0, rl, l, h, k1, k2, k3, k4⟩ := h
    refine ⟨_, G, ?_, ρ, M, G, Dd, Same.refl _, rl, l, h, k1, k2, k3, k4⟩
    intro cls d σ' H' hw
    obtain ⟨C, fl, ρ', M', G', s1, r1, l1, e1, hx, hw⟩ := hw
    subst e1
    have hans : ∀ kb, catch_ C = kb → (kb = true ∨ Wd C fl ρ' M') → exmOne X.K (.ref C) (.ref C2) = some kb := fun kb e1 e2 => by
      rcases hcatch C with z | z
      · rw [z, e1]
      · rcases e2 with e2 | e2
        · have := (z fl ρ' M').2
          rw [this] at e1
          rw [e2] at e1
          cases e1
        · exact ((z fl ρ' M').1 e2).elim
    rcases hw with ⟨hcc, hw⟩ | ⟨hcc, hw⟩
    · refine ⟨true, hans _ hcc (.inl rfl), fun _ a ha => ?_, fun z => Bool.noConfusion z⟩
      have base : ∃ G2, Same G' G2 ∧ RelH X.K M' G2 H' ∧ XdR X.K G2 G2 d fl := by
        rcases hx with ⟨e1, e2⟩ | ⟨dd, ws, e1, e2, e3⟩
        · exact ⟨G', Same.refl _, r1, .inl ⟨e1, e2⟩⟩
        · obtain ⟨sx, rx⟩ := r1.xd e2
          exact ⟨_, sx, rx, .inr ⟨dd, ws, e1, upd_same, e3.mono sx⟩⟩
      obtain ⟨G2, s2, r2, hx2⟩ := base
      refine ⟨C, fl, G2, rfl, hcc, hx2, _, M', G2, _, Same.refl _, r2, (l1.mono s2).set i (flat_rep (d := .ref a) rfl), hw a, ?_, ?_, ?_, ?_⟩
      · exact fun ρ3 M3 G3 σ3 H3 s3 r3 l3 q3 => k1 _ M3 G3 _ H3 ((s1.trans s2).trans s3) r3 (locs_none l3 i) q3
      · exact fun d3 M3 G3 v3 H3 s3 r3 p3 q3 => k2 d3 M3 G3 v3 H3 ((s1.trans s2).trans s3) r3 p3 q3
      · exact fun ρ3 M3 G3 σ3 H3 s3 r3 l3 q3 => k3 _ M3 G3 _ H3 ((s1.trans s2).trans s3) r3 (locs_none l3 i) q3
      · exact fun ρ3 M3 G3 σ3 H3 s3 r3 l3 q3 => k4 _ M3 G3 _ H3 ((s1.trans s2).trans s3) r3 (locs_none l3 i) q3
    · refine ⟨false, hans _ hcc (.inr hw), fun z => Bool.noConfusion z, fun _ => ?_⟩
      exact ⟨C, fl, ρ', M', G', s0.trans s1, r1, l1, rfl, hx, hw⟩
end
end Dq
/-! The deep layer, part 6: repr. -/
namespace Dq
open PySem PySem.Spec PyProof.Rows L2
mutual
/-- as the library's data, dicts among it -/
def D.px : D → Option PyData
  | .non => some .none
  | .bl b => some (.bool b)
  | .int i => some (.int i)
  | .str x => some (.str x)
  | .tup xs => (D.pxs xs).map .tuple
  | .lst xs => (D.pxs xs).map .list
  | .dic kvs => (D.pxk kvs).map .dict
  | _ => none
def D.pxs : List D → Option (List PyData)
  | [] => some []
  | d :: r => match D.px d, D.pxs r with
    | some x, some xs => some (x :: xs)
    | _, _ => none
def D.pxk : List (Key × D) → Option (List (PyData × PyData))
  | [] => some []
  | (k, d) :: r => match D.px d, D.pxk r with
    | some x, some xs => some (((match k with | .inl i => PyData.int i | .inr z => PyData.str z), x) :: xs)
    | _, _ => none
end
section
variable {X : Cx} {pins : List (Addr × Obj)} {σ : St} {H H0 : Hp} {s : Shared} {K0 : PySem.W.Frag}
theorem pairs_at {P : Program} {w : World} : ∀ {es : List DictEntry} {kvs : List (Key × D)} {ws : List (Key × V)} {vs : List (Key × Value)}, Pairs (mixKind P w) es vs → KV ws vs → RepK K0 H0 kvs ws →
    ∃ bs : List Value, es.map (·.val) = bs ∧ Vals (ws.map (·.2)) bs ∧ ∀ ps, D.pxk kvs = some ps → ReadsAll s.heap (es.map (·.key)) (ps.map (·.1)) [] := by
  intro es
  induction es with
  | nil =>
    intro kvs ws vs hp hk hr
    cases hp
    unfold KV at hk
    cases hk
    cases kvs with
    | nil => exact ⟨[], rfl, .nil, fun ps e => by cases e; exact .nil⟩
    | cons p r => obtain ⟨k, d⟩ := p; unfold RepK at hr; obtain ⟨_, _, e, _⟩ := hr; cases e
  | cons e es ih =>
    intro kvs ws vs hp hk hr
    cases hp with
    | @cons _ kv _ vr h1 h2 h3 =>
      unfold KV at hk
      cases hk with
      | @cons x y xs ys hxy hrest =>
        cases kvs with
        | nil => unfold RepK at hr; cases hr
        | cons p r =>
          obtain ⟨k, d⟩ := p
          unfold RepK at hr
          obtain ⟨v, rs, e1, q1, q2⟩ := hr
          cases e1
          obtain ⟨bs, f1, f2, f3⟩ := ih h3 (by unfold KV; exact hrest) q2
          refine ⟨e.val :: bs, by rw [List.map_cons, f1], .cons (by rw [h2]; exact hxy.2) f2, fun ps hps => ?_⟩
          unfold D.pxk at hps
          split at hps
          · rename_i a as ea eb
            cases hps
            have := f3 _ eb
            simp only [List.map_cons]
            refine ReadsAll.cons (as := []) (bs := []) ?_ this
            have hk : k = kv.1 := hxy.1
            have h1' : keyIs kv.1 e.key = true := h1
            rcases keyIs_shape h1' with ⟨i, t, w1, w2⟩ | ⟨z, t, w1, w2⟩
            · rw [hk, w1, w2]; exact Reads.int i t
            · rw [hk, w1, w2]; exact Reads.str z t
          · cases hps
mutual
theorem rep_reads (I : Inv X pins σ H s) : ∀ (d : D) (v : V) (u : Value) (p : PyData), Rep X.K H d v → RelV v u → D.px d = some p → ∃ as, Reads s.heap u p as
  | .non, _, _, _, h, r, e => by
    unfold Rep at h
    unfold D.px at e
    cases h
    cases e
    cases r
    exact ⟨[], Reads.none⟩
  | .bl b, _, _, _, h, r, e => by
    unfold Rep at h
    unfold D.px at e
    cases h
    cases e
    cases r
    exact ⟨[], Reads.bool b⟩
  | .int i, _, _, _, h, r, e => by
    unfold Rep at h
    unfold D.px at e
    cases h
    cases e
    obtain ⟨t, rfl⟩ := r
    exact ⟨[], Reads.int i t⟩
  | .str x, _, _, _, h, r, e => by
    unfold Rep at h
    unfold D.px at e
    cases h
    cases e
    obtain ⟨t, rfl⟩ := r
    exact ⟨[], Reads.str x t⟩
  | .tup ds, _, _, _, h, r, e => by
    unfold Rep at h
    unfold D.px at e
    obtain ⟨a, vs, rfl, hq, hr⟩ := h
    cases r
    match hx : D.pxs ds, e with
    | some ps, e =>
      cases e
      obtain ⟨its, rv, ⟨o, ho, hc, n, hd⟩, _⟩ := I.tuple hq
      obtain ⟨as, q1⟩ := reps_reads I ds _ its ps hr rv hx
      exact ⟨_, Reads.tuple ho hc hd q1⟩
  | .lst ds, _, _, _, h, r, e => by
    unfold Rep at h
    unfold D.px at e
    obtain ⟨a, vs, rfl, hq, hr⟩ := h
    cases r
    match hx : D.pxs ds, e with
    | some ps, e =>
      cases e
      obtain ⟨its, rv, ⟨o, n, ho, hc, _, hd⟩, _⟩ := I.list (.inl (.inl hq))
      obtain ⟨as, q1⟩ := reps_reads I ds _ its ps hr rv hx
      exact ⟨_, Reads.list ho hc hd q1⟩
  | .dic kvs, _, _, _, h, r, e => by
    unfold Rep at h
    unfold D.px at e
    obtain ⟨a, ws, rfl, hq, hr⟩ := h
    cases r
    match hx : D.pxk kvs, e with
    | some ps, e =>
      cases e
      obtain ⟨z, hsm, vs, rel, o, es, ep, eo, exd, hdat, hk, hp, hn⟩ := dk_of I.hok hq
      obtain ⟨bs, f1, f2, f3⟩ := pairs_at hp rel hr
      obtain ⟨cs, q1⟩ := repk_reads I kvs ws bs ps hr f2 hx
      exact ⟨_, Reads.dict eo exd.1 hdat (f3 _ hx) (by rw [f1]; exact q1)⟩
  | .ref _, _, _, _, _, _, e => by unfold D.px at e; cases e
  | .ty _, _, _, _, _, _, e => by unfold D.px at e; cases e
  | .scr _, _, _, _, _, _, e => by unfold D.px at e; cases e
theorem reps_reads (I : Inv X pins σ H s) : ∀ (ds : List D) (vs : List V) (us : List Value) (ps : List PyData), Reps X.K H ds vs → Vals vs us → D.pxs ds = some ps → ∃ as, ReadsAll s.heap us ps as
  | [], _, _, _, h, r, e => by
    unfold Reps at h
    unfold D.pxs at e
    cases h
    cases e
    cases r
    exact ⟨[], .nil⟩
  | d :: ds, _, _, _, h, r, e => by
    unfold Reps at h
    unfold D.pxs at e
    obtain ⟨v, ws, rfl, h1, h2⟩ := h
    cases r with
    | cons r1 r2 =>
      match hx : D.px d, hy : D.pxs ds, e with
      | some p, some ps, e =>
        cases e
        obtain ⟨as, q1⟩ := rep_reads I d _ _ p h1 r1 hx
        obtain ⟨bs, q3⟩ := reps_reads I ds _ _ ps h2 r2 hy
        exact ⟨_, .cons q1 q3⟩
theorem repk_reads (I : Inv X pins σ H s) : ∀ (kvs : List (Key × D)) (ws : List (Key × V)) (us : List Value) (ps : List (PyData × PyData)), RepK X.K H kvs ws → Vals (ws.map (·.2)) us → D.pxk kvs = some ps → ∃ as, ReadsAll s.heap us (ps.map (·.2)) as
  | [], _, _, _, h, r, e => by
    unfold RepK at h
    unfold D.pxk at e
    cases h
    cases e
    cases r
    exact ⟨[], .nil⟩
  | (k, d) :: ds, _, _, _, h, r, e => by
    unfold RepK at h
    unfold D.pxk at e
    obtain ⟨v, ws, rfl, h1, h2⟩ := h
    cases r with
    | cons r1 r2 =>
      match hx : D.px d, hy : D.pxk ds, e with
      | some p, some ps, e =>
        cases e
        obtain ⟨as, q1⟩ := rep_reads I d _ _ p h1 r1 hx
        obtain ⟨bs, q3⟩ := repk_reads I ds _ _ ps h2 r2 hy
        exact ⟨_, .cons q1 q3⟩
end
/-! what repr walks through -/
def Parts (P : Program) (w : World) (h : Heap) (u : Value) : PyData → Prop
  | .list xs => ∃ a o vs n bs, u = .ref a ∧ h.get? a = some o ∧ o.cls = .type "list" ∧ o.data = .seq vs n ∧ a ∉ bs ∧ ReadAtMost h (PyData.depth (.list xs)) (a :: bs) ∧ ReprAllK P w bs h (PyData.depthAll xs) vs.toList (PyData.shownAll xs)
  | .tuple xs => ∃ a o vs n bs, u = .ref a ∧ h.get? a = some o ∧ o.cls = .type "tuple" ∧ o.data = .seq vs n ∧ a ∉ bs ∧ ReadAtMost h (PyData.depth (.tuple xs)) (a :: bs) ∧ ReprAllK P w bs h (PyData.depthAll xs) vs.toList (PyData.shownAll xs)
  | .dict kvs => ∃ a o es n bs, u = .ref a ∧ h.get? a = some o ∧ o.cls = .type "dict" ∧ o.data = .dict es n ∧ (a == sysModules) = false ∧ a ∉ bs ∧ ReadAtMost h (PyData.depth (.dict kvs)) (a :: bs) ∧ ReprEntriesK P w bs h (PyData.depthKv kvs) es.toList (PyData.shownKv kvs)
  | p => Reads h u p []
def PartsAll (P : Program) (w : World) (h : Heap) (us : List Value) (ps : List PyData) : Prop := ∃ bs, ReadAtMost h (PyData.depthAll ps) bs ∧ ReprAllK P w bs h (PyData.depthAll ps) us (PyData.shownAll ps)
theorem parts_show {P : Program} {w : World} {h : Heap} {u : Value} {p : PyData} (q : Parts P w h u p) (hs : p.showable = true) (hz : p.shown.length ≤ sizeLine) : ∃ bs, ReadAtMost h p.depth bs ∧ ReprK P w bs h p.depth u p.shown := by
  cases p with
  | list xs =>
    obtain ⟨a, o, ⟨vs⟩, n, bs, rfl, h1, h2, h3, hna, hb, hk⟩ := q
    refine ⟨a :: bs, hb, ?_⟩
    simp only [PyData.depth, PyData.shown]
    generalize PyData.shownAll xs = ts at hk ⊢
    cases vs with
    | nil =>
      cases hk
      rw [listText_nil]
      exact ReprK.listEmpty h1 h2 h3
    | cons x l => exact ReprK.list h1 h2 h3 hna (by simpa using hk.length_eq) fun i y e => hk.item i y (by simpa using e)
  | tuple xs =>
    obtain ⟨a, o, vs, n, bs, rfl, h1, h2, h3, hna, hb, hk⟩ := q
    refine ⟨a :: bs, hb, ?_⟩
    simp only [PyData.depth, PyData.shown]
    exact ReprK.tuple h1 h2 h3 hna hk
  | dict kvs =>
    obtain ⟨a, o, es, n, bs, rfl, h1, h2, h3, hsm, hna, hb, hk⟩ := q
    refine ⟨a :: bs, hb, ?_⟩
    simp only [PyData.depth, PyData.shown]
    exact ReprK.dict h1 h2 h3 hsm hna hk
  | none => exact ReprK.of_reads (show Reads h u .none [] from q) hs (fun _ z => nomatch z) hz
  | bool b => exact ReprK.of_reads (show Reads h u (.bool b) [] from q) hs (fun _ z => nomatch z) hz
  | int i => exact ReprK.of_reads (show Reads h u (.int i) [] from q) hs (fun _ z => nomatch z) hz
  | str x => exact ReprK.of_reads (show Reads h u (.str x) [] from q) hs (fun _ z => nomatch z) hz
theorem partsAll_nil {P : Program} {w : World} {h : Heap} : PartsAll P w h [] [] := ⟨[], (fun _ z => nomatch z), by simp only [PyData.shownAll]; exact .nil⟩
theorem partsAll_cons {P : Program} {w : World} {h : Heap} {u : Value} {us : List Value} {p : PyData} {ps : List PyData} (q : Parts P w h u p) (hs : p.showable = true) (hz : p.shown.length ≤ sizeLine) (r : PartsAll P w h us ps) : PartsAll P w h (u :: us) (p :: ps) := by
  obtain ⟨b1, m1, k1⟩ := parts_show q hs hz
  obtain ⟨b2, m2, k2⟩ := r
  refine ⟨b1 ++ b2, ?_, ?_⟩
  · simp only [PyData.depthAll]
    exact (m1.mono (Nat.le_max_left _ _)).append (m2.mono (Nat.le_max_right _ _))
  · simp only [PyData.depthAll, PyData.shownAll]
    exact .cons ((k1.more fun b z => List.mem_append_left _ z).level_le (Nat.le_max_left _ _)) (k2.more_le (fun b z => List.mem_append_right _ z) (Nat.le_max_right _ _))
mutual
theorem rep_parts (I : Inv X pins σ H s) : ∀ (d : D) (v : V) (u : Value) (p : PyData), Rep X.K H d v → RelV v u → D.px d = some p → p.showable = true → p.shown.length ≤ sizeLine → Parts X.prog X.w s.heap u p
  | .non, v, u, p, h, r, e, hs, hz => by
    unfold Rep at h
    unfold D.px at e
    cases h; cases e; cases r
    exact Reads.none
  | .bl b, v, u, p, h, r, e, hs, hz => by
    unfold Rep at h
    unfold D.px at e
    cases h; cases e; cases r
    exact Reads.bool b
  | .int i, v, u, p, h, r, e, hs, hz => by
    unfold Rep at h
    unfold D.px at e
    cases h; cases e
    obtain ⟨t, rfl⟩ := r
    exact Reads.int i t
  | .str x, v, u, p, h, r, e, hs, hz => by
    unfold Rep at h
    unfold D.px at e
    cases h; cases e
    obtain ⟨t, rfl⟩ := r
    exact Reads.str x t
  | .tup ds, v, u, p, h, r, e, hs, hz => by
    obtain ⟨as0, r0⟩ := rep_reads I (.tup ds) v u p h r e
    unfold Rep at h
    unfold D.px at e
    obtain ⟨a, vs, rfl, hq, hr⟩ := h
    cases r
    match hx : D.pxs ds, e with
    | some ps, e =>
      cases e
      obtain ⟨its, rv, ⟨o, ho, hc, n, hd⟩, _⟩ := I.tuple hq
      rw [PyData.shown] at hz
      obtain ⟨bs, hb, hk⟩ := reps_parts I ds _ its ps hr rv hx (by rw [PyData.showable] at hs; exact hs) fun t ht => Nat.le_trans (tupleText_mem_le ht) hz
      have hna : a ∉ bs := not_mem_of_deeper r0 (by simp only [PyData.depth]; omega) hb
      exact ⟨a, o, its.toArray, n, bs, rfl, ho, hc, hd, hna, ReadAtMost.cons r0 (by simp only [PyData.depth]; omega) hb, hk⟩
  | .lst ds, v, u, p, h, r, e, hs, hz => by
    obtain ⟨as0, r0⟩ := rep_reads I (.lst ds) v u p h r e
    unfold Rep at h
    unfold D.px at e
    obtain ⟨a, vs, rfl, hq, hr⟩ := h
    cases r
    match hx : D.pxs ds, e with
    | some ps, e =>
      cases e
      obtain ⟨its, rv, ⟨o, n, ho, hc, _, hd⟩, _⟩ := I.list (.inl (.inl hq))
      rw [PyData.shown] at hz
      obtain ⟨bs, hb, hk⟩ := reps_parts I ds _ its ps hr rv hx (by rw [PyData.showable] at hs; exact hs) fun t ht => Nat.le_trans (listText_mem_le ht) hz
      have hna : a ∉ bs := not_mem_of_deeper r0 (by simp only [PyData.depth]; omega) hb
      exact ⟨a, o, its.toArray, n, bs, rfl, ho, hc, hd, hna, ReadAtMost.cons r0 (by simp only [PyData.depth]; omega) hb, hk⟩
  | .dic kvs, v, u, p, h, r, e, hs, hz => by
    obtain ⟨as0, r0⟩ := rep_reads I (.dic kvs) v u p h r e
    unfold Rep at h
    unfold D.px at e
    obtain ⟨a, ws, rfl, hq, hr⟩ := h
    cases r
    match hx : D.pxk kvs, e with
    | some ps, e =>
      cases e
      obtain ⟨z, hsm, vs, rel, o, es, ep, eo, exd, hdat, hk, hp, hn⟩ := dk_of I.hok hq
      obtain ⟨bs, f1, f2, f3⟩ := pairs_at hp rel hr
      rw [PyData.shown] at hz
      obtain ⟨hs1, hs2⟩ := PyData.showableKv_split ps (by rw [PyData.showable] at hs; exact hs)
      obtain ⟨b1, m1, k1⟩ := ReprAllK.of_readsAll (prog := X.prog) (w := X.w) (f3 _ hx) hs1 (fun _ z => nomatch z) fun t ht => let ⟨q, hq, hl⟩ := PyData.shownKv_key_le ps t ht; Nat.le_trans hl (Nat.le_trans (dictText_mem_le hq) hz)
      obtain ⟨b2, m2, k2⟩ := repk_parts I kvs ws bs ps hr f2 hx hs2 fun t ht => let ⟨q, hq, hl⟩ := PyData.shownKv_val_le ps t ht; Nat.le_trans hl (Nat.le_trans (dictText_mem_le hq) hz)
      have hb := (m1.mono (PyData.depthAll_keys_le ps)).append (m2.mono (PyData.depthAll_vals_le ps))
      have hna : a ∉ b1 ++ b2 := not_mem_of_deeper r0 (by simp only [PyData.depth]; omega) hb
      refine ⟨a, o, es, ep, b1 ++ b2, rfl, eo, exd.1, hdat, hsm, hna, ReadAtMost.cons r0 (by simp only [PyData.depth]; omega) hb, ?_⟩
      rw [PyData.shownKv_eq]
      refine ReprEntriesK.of_two es.toList _ _ (k1.more_le (fun b z => List.mem_append_left _ z) (PyData.depthAll_keys_le ps)) ?_
      rw [f1]
      exact k2.more_le (fun b z => List.mem_append_right _ z) (PyData.depthAll_vals_le ps)
  | .ref _, _, _, _, _, _, e, _, _ => by unfold D.px at e; cases e
  | .ty _, _, _, _, _, _, e, _, _ => by unfold D.px at e; cases e
  | .scr _, _, _, _, _, _, e, _, _ => by unfold D.px at e; cases e
theorem reps_parts (I : Inv X pins σ H s) : ∀ (ds : List D) (vs : List V) (us : List Value) (ps : List PyData), Reps X.K H ds vs → Vals vs us → D.pxs ds = some ps → PyData.showableAll ps = true → (∀ t ∈ PyData.shownAll ps, t.length ≤ sizeLine) → PartsAll X.prog X.w s.heap us ps
  | [], _, _, _, h, r, e, _, _ => by
    unfold Reps at h
    unfold D.pxs at e
    cases h; cases e; cases r
    exact partsAll_nil
  | d :: ds, _, _, _, h, r, e, hs, hz => by
    unfold Reps at h
    unfold D.pxs at e
    obtain ⟨v, ws, rfl, h1, h2⟩ := h
    cases r with
    | cons r1 r2 =>
      match hx : D.px d, hy : D.pxs ds, e with
      | some p, some ps, e =>
        cases e
        have hs' : p.showable = true ∧ PyData.showableAll ps = true := by simpa [PyData.showableAll] using hs
        have z1 : p.shown.length ≤ sizeLine := hz _ (by rw [PyData.shownAll]; exact List.mem_cons_self)
        exact partsAll_cons (rep_parts I d _ _ p h1 r1 hx hs'.1 z1) hs'.1 z1 (reps_parts I ds _ _ ps h2 r2 hy hs'.2 fun t ht => hz t (by rw [PyData.shownAll]; exact List.mem_cons_of_mem _ ht))
theorem repk_parts (I : Inv X pins σ H s) : ∀ (kvs : List (Key × D)) (ws : List (Key × V)) (us : List Value) (ps : List (PyData × PyData)), RepK X.K H kvs ws → Vals (ws.map (·.2)) us → D.pxk kvs = some ps → PyData.showableAll (ps.map (·.2)) = true → (∀ t ∈ PyData.shownAll (ps.map (·.2)), t.length ≤ sizeLine) →
    PartsAll X.prog X.w s.heap us (ps.map (·.2))
  | [], _, _, _, h, r, e, _, _ => by
    unfold RepK at h
    unfold D.pxk at e
    cases h; cases e; cases r
    exact partsAll_nil
  | (k, d) :: ds, _, _, _, h, r, e, hs, hz => by
    unfold RepK at h
    unfold D.pxk at e
    obtain ⟨v, ws, rfl, h1, h2⟩ := h
    cases r with
    | cons r1 r2 =>
      match hx : D.px d, hy : D.pxk ds, e with
      | some p, some ps, e =>
        cases e
        rw [List.map_cons] at hs hz ⊢
        have hs' : p.showable = true ∧ PyData.showableAll (ps.map (·.2)) = true := by simpa [PyData.showableAll] using hs
        have z1 : p.shown.length ≤ sizeLine := hz _ (by rw [PyData.shownAll]; exact List.mem_cons_self)
        exact partsAll_cons (rep_parts I d _ _ p h1 r1 hx hs'.1 z1) hs'.1 z1 (repk_parts I ds _ _ ps h2 r2 hy hs'.2 fun t ht => hz t (by rw [PyData.shownAll]; exact List.mem_cons_of_mem _ ht))
end
/-- repr(u) -/
theorem parts_call {P : Program} {w : World} {A : Around} {E : Value → Shared → Prop} {s : Shared} {Q : Value → Shared → Prop} {u : Value} {p : PyData} (q : Parts P w s.heap u p) (hs : p.showable = true) (hz : p.shown.length ≤ sizeLine) (hg : A.guards = some []) (hu : A.units + (p.depth + 1) < cLine)
    (k : ∀ h' v tk, (∀ b o, s.heap.get? b = some o → h'.get? b = some o) → Q (.str p.shown v) { s with heap := h', toks := tk }) : wpAny (model P w) A (call (.builtin "repr") [u]) Q E s := by
  cases p with
  | list xs =>
    obtain ⟨a, o, ⟨vs⟩, n, bs, rfl, h1, h2, h3, hna, hb, hk⟩ := q
    simp only [PyData.depth] at hu
    simp only [PyData.shown] at k hz
    generalize PyData.shownAll xs = ts at hk k hz
    refine call_repr_slot (by omega) ⟨o, h1, h2⟩ PySem.F.slot_list_repr.toG ?_
    cases vs with
    | nil =>
      cases hk
      rw [listText_nil] at k
      exact call_list_repr_empty ⟨o, h1, h2⟩ h1 h3 ⟨_, _, rfl, k s.heap _ _ fun _ _ z => z⟩
    | cons x l => exact call_list_reprK h1 h2 h3 hna (by simpa using hk.length_eq) (fun i y e => hk.item i y (by simpa using e)) hg (fun b _ => Clear.nil b) (by show A.units + 1 + _ < _; omega) (fun _ _ z => z) (fun h' v tk z => ⟨_, _, rfl, k h' v tk z⟩) hz
  | tuple xs =>
    obtain ⟨a, o, vs, n, bs, rfl, h1, h2, h3, hna, hb, hk⟩ := q
    simp only [PyData.depth] at hu
    simp only [PyData.shown] at k hz
    exact call_repr_slot (by omega) ⟨o, h1, h2⟩ PySem.F.slot_tuple_repr (call_tuple_reprK h1 h2 h3 hna hk hg (fun b _ => Clear.nil b) (by show A.units + 1 + _ < _; omega) (fun _ _ z => z) (fun h' v tk z => ⟨_, _, rfl, k h' v tk z⟩) hz)
  | dict kvs =>
    obtain ⟨a, o, es, n, bs, rfl, h1, h2, h3, hsm, hna, hb, hk⟩ := q
    simp only [PyData.depth] at hu
    simp only [PyData.shown] at k hz
    exact call_repr_slot (by omega) ⟨o, h1, h2⟩ PySem.F.slot_dict_repr (call_dict_reprK h1 h2 h3 hsm hna hk hg (fun b _ => Clear.nil b) (by show A.units + 1 + _ < _; omega) (fun _ _ z => z) (fun h' v tk z => ⟨_, _, rfl, k h' v tk z⟩) hz)
  | none =>
    have q' : Reads s.heap u .none [] := q
    cases q'
    simp only [PyData.shown] at k
    exact PySem.P.repr_of_none (k s.heap _ _ fun _ _ z => z)
  | bool b =>
    have q' : Reads s.heap u (.bool b) [] := q
    cases q'
    simp only [PyData.shown] at k
    refine PySem.P.repr_of_bool ?_
    have := k s.heap s.toks (s.toks + 1) fun _ _ z => z
    exact this
  | int i =>
    have q' : Reads s.heap u (.int i) [] := q
    cases q'
    simp only [PyData.shown] at k
    exact PySem.P.repr_of_int (by rw [PyData.showable] at hs; exact of_decide_eq_true hs) (k s.heap _ _ fun _ _ z => z)
  | str x =>
    have q' : Reads s.heap u (.str x) [] := q
    cases q'
    simp only [PyData.shown] at k hz
    exact PySem.P.repr_of_str (k s.heap _ _ fun _ _ z => z) hz
/-! how long a repr may be -/
def Fine (n : Nat) (x : Str) : Prop := x.length ≤ n ∧ ∀ c ∈ x.cps.toList, c < 16 ^ 8
theorem Fine.mono {n m : Nat} {x : Str} (h : Fine n x) (l : n ≤ m) : Fine m x := ⟨Nat.le_trans h.1 l, h.2⟩
theorem fine_ofString (z : String) : Fine z.length (Str.ofString z) := by
  refine ⟨by rw [PySem.ofString_length]; exact Nat.le_refl _, fun c hc => ?_⟩
  unfold Str.ofString at hc
  rw [List.toList_toArray, cpsOfBytes_string] at hc
  obtain ⟨d, _, rfl⟩ := List.mem_map.mp hc
  have := d.valid
  have : d.toNat < 1114112 := by
    rcases this with h | h
    · exact Nat.lt_trans h (by decide)
    · exact h.2
  exact Nat.lt_trans this (by decide)
theorem fine_append {n m : Nat} {x y : Str} (h : Fine n x) (g : Fine m y) : Fine (n + m) (x ++ y) := by
  refine ⟨by rw [strLen_append]; exact Nat.add_le_add h.1 g.1, fun c hc => ?_⟩
  have e : (x ++ y).cps = x.cps ++ y.cps := rfl
  rw [e, Array.toList_append] at hc
  exact (List.mem_append.mp hc).elim (h.2 c) (g.2 c)
theorem reprChar_fine (q c : Nat) (hq : q < 16 ^ 8) (hc : c < 16 ^ 8) : ∀ d ∈ Builtin.Str.reprChar q c, d < 16 ^ 8 := by
  have hx : ∀ w, ∀ d ∈ (List.replicate (w - ((Nat.toDigits 16 c).map Char.toNat).length) 48 ++ (Nat.toDigits 16 c).map Char.toNat), d < 16 ^ 8 := fun w d hd => by
    rcases List.mem_append.mp hd with h | h
    · rw [(List.mem_replicate.mp h).2]; decide
    · obtain ⟨z, _, rfl⟩ := List.mem_map.mp h
      have : z.toNat < 1114112 := by
        rcases z.valid with h | h
        · exact Nat.lt_trans h (by decide)
        · exact h.2
      exact Nat.lt_trans this (by decide)
  intro d hd
  unfold Builtin.Str.reprChar at hd
  dsimp only at hd
  repeat' split at hd
  all_goals first
    | (rcases List.mem_append.mp hd with h | h
       · simp only [List.mem_cons, List.not_mem_nil, or_false] at h; rcases h with rfl | rfl <;> decide
       · exact hx _ _ h)
    | (simp only [List.mem_cons, List.not_mem_nil, or_false] at hd; rcases hd with rfl | rfl <;> first | assumption | decide)
    | (simp only [List.mem_cons, List.not_mem_nil, or_false] at hd; subst hd; assumption)
theorem fold_fine (q : Nat) (hq : q < 16 ^ 8) : ∀ (l : List Nat) (acc : Array Nat), (∀ c ∈ l, c < 16 ^ 8) → (∀ c ∈ acc.toList, c < 16 ^ 8) → ∀ c ∈ (l.foldl (fun out c => out ++ (Builtin.Str.reprChar q c).toArray) acc).toList, c < 16 ^ 8
  | [], acc, _, h => h
  | c :: r, acc, hl, h => by
    refine fold_fine q hq r _ (fun d hd => hl d (List.mem_cons_of_mem _ hd)) fun d hd => ?_
    rw [Array.toList_append] at hd
    rcases List.mem_append.mp hd with z | z
    · exact h d z
    · exact reprChar_fine q c hq (hl c (List.mem_cons_self ..)) d z
theorem fine_repr {n : Nat} {x : Str} (h : Fine n x) : Fine (10 * n + 2) (reprText x) := by
  refine ⟨Nat.le_trans (StrLaws.reprText_len x h.2) (by have := h.1; omega), fun c hc => ?_⟩
  unfold reprText at hc
  have hq : reprQuote x < 16 ^ 8 := by unfold reprQuote; split <;> decide
  rw [Array.toList_push, ← Array.foldl_toList] at hc
  rcases List.mem_append.mp hc with z | z
  · exact fold_fine _ hq _ _ h.2 (fun d hd => by simp at hd; rw [hd]; exact hq) c z
  · simp at z; rw [z]; exact hq
def Fines (n : Nat) (l : List Str) : Prop := ∀ x ∈ l, Fine n x
theorem fine_textFrom {n : Nat} : ∀ (l : List Str) (k m : Nat) (acc : Str), Fines n l → Fine m acc → Fine (m + l.length * (n + 2)) (textFrom k acc l)
  | [], k, m, acc, _, h => h.mono (by simp)
  | t :: r, k, m, acc, hl, h => by
    have := fine_textFrom r (k + 1) (m + 2 + n) (acc ++ (if k > 0 then ", " else "" : String) ++ t) (fun x hx => hl x (List.mem_cons_of_mem _ hx))
      (fine_append (fine_append h (by split <;> exact (fine_ofString _).mono (by decide))) (hl t (List.mem_cons_self ..)))
    exact this.mono (by rw [List.length_cons, Nat.succ_mul]; omega)
theorem fine_list {n : Nat} {l : List Str} (h : Fines n l) : Fine (l.length * (n + 2) + 2) (listText l) := by
  unfold listText
  exact (fine_append (fine_textFrom l 0 1 _ h (fine_ofString "[")) (fine_ofString "]")).mono (by have : "]".length = 1 := rfl; omega)
theorem fine_join {n : Nat} : ∀ {l : List Str}, Fines n l → Fine (l.length * (n + 2)) (Str.join ", " l)
  | [], _ => ⟨by show 0 ≤ _; omega, fun c hc => by simp [Str.join, Str.empty] at hc⟩
  | [x], h => by
    show Fine _ x
    exact (h x (by simp)).mono (by simp)
  | x :: y :: r, h => by
    have ih := fine_join (l := y :: r) fun z hz => h z (List.mem_cons_of_mem _ hz)
    show Fine _ (x ++ (", " : Str) ++ Str.join ", " (y :: r))
    exact (fine_append (fine_append (h x (by simp)) (fine_ofString ", ")) ih).mono (by have : ", ".length = 2 := rfl; rw [List.length_cons (as := y :: r), Nat.succ_mul]; omega)
theorem fine_tuple {n : Nat} {l : List Str} (h : Fines n l) : Fine (l.length * (n + 2) + 3) (tupleText l) := by
  unfold tupleText
  exact (fine_append (fine_append (fine_ofString "(") (fine_join h)) (by split <;> exact (fine_ofString _).mono (m := 2) (by decide))).mono (by have : "(".length = 1 := rfl; omega)
theorem fine_dict {n : Nat} {l : List Str} (h : Fines n l) : Fine (l.length * (n + 2) + 2) (dictText l) := by
  unfold dictText
  exact (fine_append (fine_append (fine_ofString "{") (fine_join h)) (fine_ofString "}")).mono (by have : "{".length = 1 := rfl; have : "}".length = 1 := rfl; omega)
/-- data whose text is at most n long, at most k deep -/
structure Okp (n k : Nat) (p : PyData) : Prop where
  sh : p.showable = true
  fi : Fine n p.shown
  dp : p.depth ≤ k
def Okps (n k : Nat) (l : List PyData) : Prop := PyData.showableAll l = true ∧ Fines n (PyData.shownAll l) ∧ PyData.depthAll l ≤ k ∧ (PyData.shownAll l).length = l.length
theorem Okp.mono {n m j k : Nat} {p : PyData} (h : Okp n j p) (l : n ≤ m) (l2 : j ≤ k) : Okp m k p := ⟨h.sh, h.fi.mono l, Nat.le_trans h.dp l2⟩
theorem okps_nil {n k : Nat} : Okps n k [] := ⟨rfl, fun x h => by simp [PyData.shownAll] at h, by simp [PyData.depthAll], by simp [PyData.shownAll]⟩
theorem okps_cons {n k : Nat} {p : PyData} {l : List PyData} (h : Okp n k p) (g : Okps n k l) : Okps n k (p :: l) := by
  refine ⟨by rw [PyData.showableAll, h.sh, g.1]; rfl, fun x hx => ?_, ?_, by rw [PyData.shownAll, List.length_cons, g.2.2.2, List.length_cons]⟩
  · rw [PyData.shownAll] at hx
    rcases List.mem_cons.mp hx with z | z
    · rw [z]; exact h.fi
    · exact g.2.1 x z
  · have := h.dp
    have := g.2.2.1
    simp only [PyData.depthAll]
    omega
theorem okp_tuple {n k : Nat} {l : List PyData} (h : Okps n k l) : Okp (l.length * (n + 2) + 3) (k + 1) (.tuple l) :=
  ⟨by rw [PyData.showable]; exact h.1, by rw [PyData.shown, ← h.2.2.2]; exact fine_tuple h.2.1, by have := h.2.2.1; simp only [PyData.depth]; omega⟩
theorem okp_list {n k : Nat} {l : List PyData} (h : Okps n k l) : Okp (l.length * (n + 2) + 2) (k + 1) (.list l) :=
  ⟨by rw [PyData.showable]; exact h.1, by rw [PyData.shown, ← h.2.2.2]; exact fine_list h.2.1, by have := h.2.2.1; simp only [PyData.depth]; omega⟩
theorem okp_none : Okp 4 1 .none := ⟨rfl, by rw [PyData.shown]; exact fine_ofString "None", by simp [PyData.depth]⟩
theorem okp_bool (b : Bool) : Okp 5 1 (.bool b) := ⟨rfl, by rw [PyData.shown]; cases b; exact fine_ofString "False"; exact (fine_ofString "True").mono (by decide), by simp [PyData.depth]⟩
theorem okp_str {n : Nat} {x : Str} (h : Fine n x) : Okp (10 * n + 2) 1 (.str x) := ⟨rfl, by rw [PyData.shown]; exact fine_repr h, by simp [PyData.depth]⟩
theorem okp_int {i : Int} {k : Nat} (h : i.natAbs.log2 < k) (hk : k ≤ 1920) : Okp (k + 1) 1 (.int i) :=
  ⟨by rw [PyData.showable]; exact decide_eq_true (Nat.lt_of_lt_of_le h hk), by
    rw [PyData.shown]
    exact (fine_ofString _).mono (int_text_length_le (by omega) h), by simp [PyData.depth]⟩
def cRepr : RDC := fun ds M Q => match ds with
  | [d] => ∃ p n, D.px d = some p ∧ Okp n 40 p ∧ n ≤ 16777216 ∧ Q (.str p.shown) M
  | _ => False
theorem repr_ok (hg : X.A.guards = some []) (hu : X.A.units + 64 < cLine) : CallR X (.builtin "repr") (upC X.K cRepr) := by
  intro pins s σ H xs us Q I r h
  obtain ⟨M, G, ds, Qd, rl, rp, h, kk⟩ := h
  unfold cRepr at h
  split at h
  · rename_i d
    obtain ⟨p, n, e, ok, hn, h⟩ := h
    obtain ⟨v, ev, pv⟩ := reps1 rp
    subst ev
    obtain ⟨u, rfl, ru⟩ := vals1 r
    have hz : p.shown.length ≤ sizeLine := Nat.le_trans ok.fi.1 (by rw [sizeLine_eq]; exact hn)
    have hdp := ok.dp
    exact parts_call (rep_parts I d v u p (pv.mono rl.sub) ru e ok.sh hz) ok.sh hz hg (by omega) fun h' u tk hk => ⟨.str p.shown, H, I.kept hk, ⟨_, rfl⟩, kk (.str p.shown) M G _ H (Same.refl _) rl (flat_rep rfl) h⟩
  · exact h.elim
end
end Dq
/-! The deep layer, part 7: lists that grow, the end of a law. -/
namespace Dq
open PySem PySem.Spec PyProof.Rows L2
section
variable {X : Cx} {G0 : Hp} {K : PySem.W.Frag} {x : Str} {p pos apos cpos : Pos} {o e a b : Expr} {es : List Expr} {ad : DA} {de da db od : DE}
/-- the list or dict that the value is, from now on never changed -/
def frz (d : D) (M : Mm) (Q : DK) : Prop := match d with
  | .ref a => match M a with
    | some (.lst xs) => Q (.lst xs) (M.del a)
    | some (.dic kvs) => Q (.dic kvs) (M.del a)
    | none => Q d M
  | _ => Q d M
def dFrz (de : DE) : DE := fun ρ M Q => de ρ M fun d M1 => frz d M1 Q
theorem de_frz (he : PE X e (up K G0 de)) : PE X e (up K G0 (dFrz de)) := pe_mono he fun σ H Q h => by
  obtain ⟨ρ, M, G, Qd, s0, rl, l, h, kk⟩ := h
  refine ⟨ρ, M, G, _, s0, rl, l, h, fun d M1 G1 v H1 s1 r1 p1 q1 => ?_⟩
  unfold frz at q1
  split at q1
  · rename_i a
    have ev := rep_ref p1
    subst ev
    split at q1
    · rename_i xs em
      obtain ⟨g, ws, e1, q⟩ := r1.mem a _ em
      exact kk _ _ _ _ H1 (s1.trans (same_upd g)) (r1.freeze em e1) (by unfold Rep; exact ⟨a, ws, rfl, upd_same, q.mono (same_upd g)⟩) q1
    · rename_i kvs em
      obtain ⟨g, ws, e1, q⟩ := r1.mem a _ em
      exact kk _ _ _ _ H1 (s1.trans (same_upd g)) (r1.freeze em e1) (by unfold Rep; exact ⟨a, ws, rfl, upd_same, q.mono (same_upd g)⟩) q1
    · exact kk _ _ _ _ H1 s1 r1 p1 q1
  · exact kk _ _ _ _ H1 s1 r1 p1 q1
/-- xs.append(e) -/
def dApp (od : DE) (ad : DA) : DE := fun ρ M Q => od ρ M fun d M1 => match d with
  | .ref a => (∃ ys, M1 a = some (.lst ys)) ∧ ad ρ M1 fun ds M2 => match ds, M2 a with
    | [x], some (.lst xs) => xs.length < 16777216 ∧ Q .non (M2.set a (.lst (xs ++ [x])))
    | _, _ => False
  | _ => False
theorem de_app (ho : PE X o (up X.K G0 od)) (ha : PA X [e] (upA X.K G0 ad))
    (hbase : attributeBase o "append" X.env (eval o X.env) = eval o X.env := by rfl)
    (hfew : ((backTo cpos (starEach [e] X.env)).all (fun x => !x.1) && (backToKw cpos (keywordEach [] X.env)).all (fun x => x.1.isSome) && decide (([e] : List Expr).length + ([] : List Keyword).length + (if ([] : List Keyword).isEmpty then 0 else 1) < 30)) = true := by rfl)
    (hline : (apos.endLine == cpos.line) = true := by rfl) (hs : starEach [e] X.env = (false, eval e X.env) :: starEach [] X.env := by rfl) (hplain : (backTo cpos (starEach [] X.env)).any (·.1) = false := by rfl) :
    PE X (.Call (.Attribute o "append" apos) [e] [] cpos) (up X.K G0 (dApp od ad)) :=
  pe_mono (pe_bm PySem.F.plainAttrs_list PySem.F.slot_list_append PySem.F.type_list_append mt_append ho ha hbase hfew hline hs hplain) fun σ H Q h => by
    obtain ⟨ρ, M, G, Qd, s0, rl, l, h, kk⟩ := h
    refine ⟨ρ, M, G, _, s0, rl, l, h, fun d M1 G1 v H1 s1 r1 p1 q1 => ?_⟩
    split at q1
    · rename_i a
      obtain ⟨⟨ys, ey⟩, q1⟩ := q1
      have ev := rep_ref p1
      subst ev
      obtain ⟨_, ws, e1, _⟩ := r1.mem a _ ey
      refine ⟨.inl ⟨rfl, _, SqL.of e1⟩, ρ, M1, G1, _, s0.trans s1, r1, l.mono s1, q1, fun ds M2 G2 vs H2 s2 r2 p2 q2 => ?_⟩
      split at q2
      · rename_i x xs em
        obtain ⟨hl, q2⟩ := q2
        obtain ⟨v1, ev, px⟩ := reps1 p2
        subst ev
        obtain ⟨_, ws2, e2, rr⟩ := r2.mem a _ em
        refine ⟨a, ws2, v1, rfl, rfl, e2, by rw [← rr.length, sizeLine_eq]; exact hl, kk _ _ G2 _ _ (s1.trans s2) (r2.write em (m := .lst (xs ++ [x])) ⟨_, upd_same, rr.append (.cons px .nil)⟩) (flat_rep rfl) q2⟩
      · exact q2.elim
    · exact q1.elim
end

/-! ### the end: from the law's promise to the goal of the head -/
section
variable {P : Program} {w : World} {K : PySem.W.Frag} {mg mb : Str → Option Value} {k : Nat} {fa a : Addr} {fd : FuncData} {x : Str} {sp : DSp} {s1 : Shared} {vs : List Value} {ns : List Int}
/-- the heap at the call, told but for what hp tells -/
theorem env_at {hp : Hp} {scr : Obj} (kin : K.In s1.heap) (nsm : s1.heap.Ns mainGlobals mg) (nsb : s1.heap.Ns builtinsNs mb) (nb : ∀ y : Str, y ≠ "__name__" → mb y = bootBuiltins y) (nl : s1.heap.NoLimit) (gn : s1.gens = #[])
    (hs : s1.heap.get? a = some scr) (hsd : ∀ es n, scr.data ≠ .dict es n) (told : HOk P w hp s1.heap) (sole : ∀ c, hp c ≠ none → c = a) (fresh : hp a ≠ none → K.lookup a = none) : Env0 P w K mg (hidT s1.heap hp) callerA [] s1 hp := by
  have keep : ∀ {c : Addr} {ob : Obj}, s1.heap.get? c = some ob → hp c = none → (hidT s1.heap hp).get? c = some ob := fun z n => hidT_get z n
  have dfree : ∀ {c : Addr} {ob : Obj} {es : Array DictEntry} {n : Nat}, s1.heap.get? c = some ob → ob.data = .dict es n → hp c = none := by
    intro c ob es n z d
    by_cases hc : hp c = none
    · exact hc
    · have ec := sole c hc
      subst ec
      rw [hs] at z
      cases z
      exact absurd d (hsd _ _)
  have nsk : ∀ {c : Addr} {m : Str → Option Value}, s1.heap.Ns c m → (hidT s1.heap hp).Ns c m := by
    rintro c m ⟨ob, es, n, z, d, r⟩
    exact ⟨ob, es, n, keep z (dfree z d), d, r⟩
  have kin2 : K.In (hidT s1.heap hp) := by
    intro c ob z
    refine keep (kin c ob z) ?_
    by_cases hc : hp c = none
    · exact hc
    · have ec := sole c hc
      subst ec
      rw [fresh hc] at z
      cases z
  obtain ⟨mc, l1, l2⟩ := nl
  exact { frames := rfl, mod := ⟨kin2, nsk nsm, ⟨mb, nsk nsb, nb⟩, ⟨mc, nsk l1, l2⟩⟩, bs := fun b ob z => of_hidT z, bsz := Nat.le_of_eq (hidT_size _ _), funs := trivial, frf := fun b hb => absurd (show b ∈ ([] : List Addr) from hb) (by simp), hok := told, bare := .of_eq gn }
/-- the call of the law, where hp tells of the script alone (or of nothing) -/
theorem call_at {hp : Hp} {scr : Obj} (F : ∀ base : Heap, K.In base → base.Ns mainGlobals mg → FnD P w K mg base k fa fd [x] sp) (hbind : ∀ (s : Shared) (u : Value), BindsTo s fd ⟨[u], []⟩ [(x, u)]) (hr : RoomG k callerA)
    (kin : K.In s1.heap) (nsm : s1.heap.Ns mainGlobals mg) (nsb : s1.heap.Ns builtinsNs mb) (nb : ∀ y : Str, y ≠ "__name__" → mb y = bootBuiltins y) (nl : s1.heap.NoLimit) (gn : s1.gens = #[])
    (hs : s1.heap.get? a = some scr) (hsd : ∀ es n, scr.data ≠ .dict es n) (told : HOk P w hp s1.heap) (sole : ∀ c, hp c ≠ none → c = a) (fresh : hp a ≠ none → K.lookup a = none)
    (shape : ∀ c, hp c = none ∨ ∃ ob xs, hp c = some (.frz ob (.lst xs))) (sq : SqL K hp a (ns.map V.int)) (hsp : sp [.scr ns] (fun _ => none) (fun d _ => d = .bl true) fun _ _ _ => False) :
    codeAny (model P w) callerA (.call (.ref fa) ⟨[.ref a], []⟩) (fun r s' => r = .ok (.ret (.bool true)) ∧ OldK s1.heap s'.heap ∧ s'.os = s1.os ∧ AllBare s'.gens) s1 := by
  have e0 := env_at kin nsm nsb nb nl gn hs hsd told sole fresh (P := P) (w := w)
  refine codeAny_mono ((F _ e0.mod.kin e0.mod.glob).run callerA [] s1 hp ⟨[.ref a], []⟩ [.ref a] [.ref a] (fun v _ => v = .bl true) (fun _ _ _ => False) hr e0 (hbind s1 (.ref a)) (.cons rfl .nil) ?_) ?_
  · refine ⟨fun _ => none, hp, [.scr ns], _, _, ⟨Same.refl _, fun b u z => nomatch z⟩, .cons (by unfold Rep; exact ⟨a, rfl, sq⟩) .nil, hsp, fun d M' G' v H' _ _ pv q => ?_, fun C fs M' G' d H' _ _ _ q => q.elim⟩
    subst q
    unfold Rep at pv
    exact pv
  · intro res s2 h
    match res, h with
    | .error ex, h => obtain ⟨_, _, _, _, _, _, _, _, _, _, _, _, h⟩ := h; exact h.elim
    | .ok (.ret u), h =>
      obtain ⟨v, hq, os, bare, un, told2, rv, ev⟩ := h
      subst ev
      obtain rfl : u = Value.bool true := rv
      refine ⟨rfl, OldK.of_keep fun c ob z => ?_, os, bare⟩
      rcases shape c with hc | ⟨o3, xs, hc⟩
      · exact un.keep c ob z hc (by intro y; cases y) (by intro y; cases y)
      · have w1 := (told c _ hc).1
        have w2 := (told2 c _ (un.frzs c o3 _ hc)).1
        rw [z] at w1
        cases w1
        exact w2
/-- the goal that the head leaves, from the law's promise -/
theorem walkD {l : PySem.W.OpenLaw} {n k : Nat} {q : Program} {loose : List Str} {XP : (Str → Option Value) → Heap → Prop} {YP : World → Heap → Prop} {d : DefRec} {K : Params → PySem.W.Frag} {sp : PySem.W.Frag → DSp} {x : Str}
    (hn : l.most = some n) (hn2 : n ≤ sizeLine) (hdf : d.params.defaults = []) (hr : RoomG k callerA) (hY : ∀ (w : World) (h : Heap), YP w h → (K w.params).In h)
    (F : ∀ (w : World) (mg : Str → Option Value) (fa : Addr) (h : Heap), (K w.params).In h → h.Ns mainGlobals mg → mg d.name = some (.ref fa) →
      ∃ fd : FuncData, (∀ (s : Shared) (u : Value), BindsTo s fd ⟨[u], []⟩ [(x, u)]) ∧ ∀ base : Heap, (K w.params).In base → base.Ns mainGlobals mg → FnD l.prog w (K w.params) mg base k fa fd [x] (sp (K w.params)))
    (hsp : ∀ (K : PySem.W.Frag) (ns : List Int), ns.length ≤ n → sp K [.scr ns] (fun _ => none) (fun d _ => d = .bl true) fun _ _ _ => False) : PySem.W.WalkO q loose XP YP l.row.toRowW d [] (fun f vs => PySem.call f vs) := by
  refine Att.attach_call hn hdf fun w s₀ s1 mg mb fa o pm cd doc a vs ns G Y ho hd hcd hmg hobj hints hlen hg => ?_
  have kin := hY w _ Y
  obtain ⟨fd, hb, hF⟩ := F w mg fa _ kin G.T.g hmg
  have rv := vals_ints hints
  have hz : ns.length ≤ sizeLine := Nat.le_trans hlen hn2
  have nodic : ∀ (es : Array DictEntry) (m : Nat), ({ cls := .type "list", data := .seq vs.toArray } : Obj).data ≠ .dict es m := fun es m z => by cases z
  by_cases hk : (K w.params).lookup a = none
  · refine call_at hF hb hr (hp := fun c => if c = a then some (.frz { cls := .type "list", data := .seq vs.toArray } (.lst (ns.map V.int))) else none) kin G.T.g G.T.b G.T.builtins G.T.nolimit hg hobj nodic (fun c u z => ?_) (fun c hc => ?_) (fun _ => hk) (fun c => ?_) (.inl (.inr ⟨_, if_pos rfl⟩)) (hsp _ ns hlen)
    · by_cases hc : c = a
      · subst hc
        have z2 := (if_pos rfl).symm.trans z
        cases z2
        exact ⟨hobj, by rw [List.length_map]; exact hz, vs, _, rv, hobj⟩
      · have z2 := (if_neg hc).symm.trans z
        cases z2
    · by_cases e : c = a
      · exact e
      · exact absurd (if_neg e) hc
    · by_cases e : c = a
      · exact .inr ⟨_, _, if_pos e⟩
      · exact .inl (if_neg e)
  · obtain ⟨o2, e2⟩ : ∃ o2, (K w.params).lookup a = some o2 := by
      cases e : (K w.params).lookup a with
      | none => exact absurd e hk
      | some o2 => exact ⟨o2, rfl⟩
    have e3 := kin a o2 e2
    rw [hobj] at e3
    cases e3
    exact call_at hF hb hr (hp := fun _ => none) kin G.T.g G.T.b G.T.builtins G.T.nolimit hg hobj nodic (fun c u z => nomatch z) (fun c hc => absurd rfl hc) (fun hc => absurd rfl hc) (fun c => .inl rfl)
      (.inr ⟨_, vs.toArray, _, e2, rfl, rfl, rfl, by rw [List.size_toArray, hints.length]; exact hz, by simpa using rv⟩) (hsp _ ns hlen)
end
end Dq
/-! The deep layer, part 8: what the written part says, packed; the laws' own drawing. -/
namespace Dq
open PySem PySem.Spec PyProof.Rows L2
open PySem.W (findIn typeIn keepIn)
section
variable {P : Program} {w : World} {K : PySem.W.Frag} {mg : Str → Option Value} {base : Heap} {C : Addr} {ups : List Addr} {fs fl ps ps' : List Str} {x : Str} {k j : Nat} {sp : DSp} {esp : ESp} {st : Stmt} {qual : Str}
/-- a def of the text -/
def Dn (K : PySem.W.Frag) (mg : Str → Option Value) (x qual : Str) (st : Stmt) (ps : List Str) : Prop := ∃ f fd, mg x = some (.ref f) ∧ Fun K x qual st f fd ∧ Binds K fd ps []
/-- a def that keeps its promise -/
def Fd (P : Program) (w : World) (K : PySem.W.Frag) (mg : Str → Option Value) (base : Heap) (k : Nat) (x : Str) (ps : List Str) (sp : DSp) : Prop :=
  ∃ f fd, mg x = some (.ref f) ∧ keepIn K (.ref f) = true ∧ Binds K fd ps [] ∧ FnD P w K mg base k f fd ps sp
def FdE (P : Program) (w : World) (K : PySem.W.Frag) (mg : Str → Option Value) (base : Heap) (k : Nat) (x : Str) (ps : List Str) (sp : ESp) : Prop :=
  ∃ f fd, mg x = some (.ref f) ∧ keepIn K (.ref f) = true ∧ Binds K fd ps [] ∧ FnE P w K mg base k f fd ps sp
theorem dn_mk {f : Addr} {fd : FuncData} (h1 : mg x = some (.ref f)) (h2 : Fun K x qual st f fd) (h3 : Binds K fd ps []) : Dn K mg x qual st ps := ⟨f, fd, h1, h2, h3⟩
theorem Dn.ok (D : Dn K mg x qual st ps) (h : ∀ f fd, Fun K x qual st f fd → FnD P w K mg base k f fd ps sp) : Fd P w K mg base k x ps sp := by
  obtain ⟨f, fd, h1, h2, h3⟩ := D
  exact ⟨f, fd, h1, h2.kp, h3, h f fd h2⟩
theorem Dn.okE (D : Dn K mg x qual st ps) (h : ∀ f fd, Fun K x qual st f fd → FnE P w K mg base k f fd ps esp) : FdE P w K mg base k x ps esp := by
  obtain ⟨f, fd, h1, h2, h3⟩ := D
  exact ⟨f, fd, h1, h2.kp, h3, h f fd h2⟩
/-- an own error with its __init__ -/
def Ei (P : Program) (w : World) (K : PySem.W.Frag) (mg : Str → Option Value) (base : Heap) (x : Str) (C : Addr) (ups : List Addr) (fl : List Str) : Prop :=
  mg x = some (.ref C) ∧ (∃ fs, Err K C ups fs) ∧ ∃ fI fd ps, findIn K (.ref C) "__init__" = some (some (.ref fI)) ∧ typeIn K (.ref fI) = some (.type "function") ∧ Binds K fd ps [] ∧ FnOk P w K mg base CX0 1 fI fd ps (spInit C fl.length fun ws => (fl.zip ws).reverse)
/-- an own error without one -/
def E0 (K : PySem.W.Frag) (mg : Str → Option Value) (x : Str) (C : Addr) (ups : List Addr) : Prop := mg x = some (.ref C) ∧ (∃ fs, Err K C ups fs) ∧ PySem.W.excIn K C errTail "ValueError.__new__" = true
variable {X : Cx} {G0 : Hp} {p pos pos2 : Pos} {e : Expr} {es : List Expr} {ad : DA} {Wd : DXS} {de : DE}
theorem takesF : Takes X (upW X.K G0 fun _ _ _ _ => False) := takes0.imp fun c d σ H h => by
  obtain ⟨_, _, _, _, _, _, _, _, _, _, h⟩ := h
  exact h
theorem de_callF (F : Fd X.prog X.w X.K X.mg X.base k x ps sp) (hr : RoomG k X.A) (hg : Gl X x) (tk : Takes X (upW X.K G0 Wd)) (ha : PA X (e :: es) (upA X.K G0 ad))
    (hdb : (x == ("__debug__" : Str)) = false := by decide) (he : starEach (e :: es) X.env = (false, eval e X.env) :: starEach es X.env := by rfl) (hpl : (backTo pos (starEach es X.env)).any (·.1) = false := by rfl) :
    PE X (.Call (.Name x p) (e :: es) [] pos) (up X.K G0 (dCallF sp Wd ad)) := by
  obtain ⟨f, fd, h1, h2, h3, h4⟩ := F
  exact de_call h4 hr hg h1 h2 h3 tk ha hdb he hpl
theorem de_callFE {q : Addr × Obj} {fl : List (Str × D)} (F : FdE X.prog X.w X.K X.mg X.base k x ps esp) (hx : ExcAt X.K G0 q C fl) (hq : q ∈ X.pn) (hr : RoomE k X.A) (hg : Gl X x) (ha : PA X (e :: es) (upA X.K G0 ad))
    (hdb : (x == ("__debug__" : Str)) = false := by decide) (he : starEach (e :: es) X.env = (false, eval e X.env) :: starEach es X.env := by rfl) (hpl : (backTo pos (starEach es X.env)).any (·.1) = false := by rfl) :
    PE X (.Call (.Name x p) (e :: es) [] pos) (up X.K G0 (dCallE esp q.1 C fl (fun _ _ _ _ => False) ad)) := by
  obtain ⟨f, fd, h1, h2, h3, h4⟩ := F
  exact de_callE h4 hx hq hr hg h1 h2 h3 takesF ha hdb he hpl
theorem ds_raiseI (E : Ei X.prog X.w X.K X.mg X.base x C ups fl) (hc : X.calm = true) (tk : Takes X (upW X.K G0 Wd)) (hr : RoomG 2 X.A) (ha : PA X (e :: es) (upA X.K G0 ad)) (hnd : fl.Nodup := by decide +kernel) (h9 : fl.length ≤ 900 := by decide) (hg : Gl X x := by rfl)
    (hdb : (x == ("__debug__" : Str)) = false := by decide) (he : starEach (e :: es) X.env = (false, eval e X.env) :: starEach es X.env := by rfl) (hpl : (backTo pos (starEach es X.env)).any (·.1) = false := by rfl) :
    PS X (.Raise (some (.Call (.Name x p) (e :: es) [] pos)) none pos2) (upS X.K G0 (dRaise C fl Wd ad)) := by
  obtain ⟨h1, ⟨fs, h2⟩, fI, fd, ps, h3, h4, h5, h6⟩ := E
  exact ds_raise hc tk h2 h3 h4 h6 hr h5 h1 hnd h9 ha hg hdb he hpl
theorem ds_raiseN (E : E0 X.K X.mg x C ups) (hc : X.calm = true) (tk : Takes X (upW X.K G0 Wd)) (hg : Gl X x := by rfl) (hdb : (x == ("__debug__" : Str)) = false := by decide) :
    PS X (.Raise (some (.Call (.Name x p) [] [] pos)) none pos2) (upS X.K G0 (dRaise0 C Wd)) := by
  obtain ⟨h1, ⟨fs, h2⟩, h3⟩ := E
  exact ds_raise0 hc tk h2 h3 h1 hg hdb
theorem dv (i : Nat) (hN : X.N[i]? = some x := by rfl) (hv : Vis X.env.scope x := by first | exact Or.inl rfl | exact Or.inr (Or.inl rfl) | exact Or.inr (Or.inr rfl)) (hd : (x == ("__debug__" : Str)) = false := by decide)
    (hcd : (x == ("__classdict__" : Str)) = false := by decide) : PE X (.Name x pos) (up K G0 (dVar i)) := de_var hN hv hd hcd
/-- C's own classes above it; all of them: the first is the base of the rest -/
def upsC (c : Nat → Addr) (C : Addr) : List Addr := if C = c 0 then [] else [c 0]
def allC (c : Nat → Addr) (n : Nat) : List Addr := (List.range n).map c
def Inj (c : Nat → Addr) (n : Nat) : Prop := ∀ i j, i < n → j < n → c i = c j → i = j
theorem upsC_at {c : Nat → Addr} {n i : Nat} (h : Inj c n) (hi : i < n) (h0 : i ≠ 0) : upsC c (c i) = [c 0] := if_neg fun z => h0 (h i 0 hi (by omega) z)
theorem mem_allC {c : Nat → Addr} {n i : Nat} (hi : i < n) : c i ∈ allC c n := List.mem_map.mpr ⟨i, List.mem_range.mpr hi, rfl⟩
theorem rErr_at {c : Nat → Addr} {n i j : Nat} (h : Inj c n) (hi : i < n) (hj : j < n) (h0 : i ≠ 0) : rErr (allC c n) (c i) (upsC c (c i)) (.ref (c j)) = some (decide (j = i) || decide (j = 0)) := by
  show (if c j ∈ allC c n then some (isOf (c i) (upsC c (c i)) (c j)) else none) = _
  rw [if_pos (mem_allC hj), upsC_at h hi h0]
  congr 1
  unfold isOf
  congr 1
  · exact decide_eq_decide.mpr ⟨fun z => h j i hj hi z, fun z => by rw [z]⟩
  · exact decide_eq_decide.mpr (List.mem_singleton.trans ⟨fun z => h j 0 hj (by omega) z, fun z => by rw [z]⟩)
/-- a class by its name -/
theorem de_cls (h : X.mg x = some (.ref C)) (hg : Gl X x := by rfl) (hdb : (x == ("__debug__" : Str)) = false := by decide) : PE X (.Name x pos) (up K G0 (dC (.ref C))) :=
  de_const ⟨fun pins s σ H Q I q => ld_glob I hg h ⟨.ref C, H, I, rfl, q⟩ hdb⟩ rfl
theorem de_tyN {n : String} (h : X.mg x = none) (hv : bootBuiltins x = some (.type n)) (hg : Gl X x := by rfl) (hn : x ≠ "__name__" := by decide) (hdb : (x == ("__debug__" : Str)) = false := by decide) : PE X (.Name x pos) (up K G0 (dC (.ty n))) :=
  de_const ⟨fun pins s σ H Q I q => ld_blt I hg h hv ⟨.ty n, H, I, rfl, q⟩ hn hdb⟩ rfl
end

/-! ### drawing -/
section
def penK (ns : List Int) (at_ dg ct fo : Int) : List (Key × D) := [(Sum.inr "cells", .lst (ns.map D.int)), (Sum.inr "at", .int at_), (Sum.inr "digits", .int dg), (Sum.inr "count", .int ct), (Sum.inr "fold", .int fo)]
def PenOk (n : Nat) (l : List (Key × D)) : Prop := ∃ ns at_ dg ct fo, l = penK ns at_ dg ct fo ∧ 0 ≤ at_ ∧ 0 ≤ ct ∧ ct ≤ n ∧ 0 ≤ fo ∧ fo < 4294967296 ∧ ns.length ≤ 63
def topN : Nat := 1000000000000000000
def spPen : DSp := fun ds M Q _ => ∃ ns, ds = [.scr ns] ∧ ns.length ≤ 63 ∧ ∀ p P, M p = none → PenOk 0 P → Q (.ref p) (M.set p (.dic P))
def spDraw : DSp := fun ds M Q _ => ∃ p many P n, ds = [.ref p, .int many] ∧ 0 < many ∧ many < 4611686018427387904 ∧ M p = some (.dic P) ∧ PenOk n P ∧ n < topN ∧ ∀ r P', 0 ≤ r → r < many → PenOk (n + 1) P' → Q (.int r) (M.set p (.dic P'))
def spPick : DSp := fun ds M Q _ => ∃ p d xs P n, ds = [.ref p, d] ∧ items d = some xs ∧ xs ≠ [] ∧ xs.length < 4611686018427387904 ∧ M p = some (.dic P) ∧ PenOk n P ∧ n < topN ∧ ∀ x P', x ∈ xs → PenOk (n + 1) P' → Q x (M.set p (.dic P'))
end
end Dq
/-! The deep layer, part 9: what the laws' own drawing does. -/
namespace Dq
open PySem PySem.Spec PyProof.Rows L2
def bPen : DXS → DS := fun Wd => (dSeq (dAsg (dC (.int 0)) (dgName 1))
  (dSeq (dFor (dSeqI (dVar 0)) (dgName 2) (dAsg (dBin (rI2 (fun _ j => 0 < j) fun i j => .int (i % j)) (dCall cInt (dCons (dBin rAdd (dBin (rI2 CMulW fun i j => .int (i * j)) (dVar 1) (dC (.int 47))) (dVar 2)) dNil)) (dC (.int 1000000007))) (dgName 1)))
  (dRet (dDicM [(Sum.inr "cells", (dCall cList (dCons (dVar 0) dNil))), (Sum.inr "at", (dC (.int 0))), (Sum.inr "digits", (dC (.int 0))), (Sum.inr "count", (dC (.int 0))), (Sum.inr "fold", (dVar 1))]))))
def bDraw : DXS → DS := fun Wd => (dSeq (dDput (dVar 0) (dC (.str "count")) (dBin rAdd (dBin rDix (dVar 0) (dC (.str "count"))) (dC (.int 1))))
  (dSeq (dIf (dAnd (dTest (dBin rEq' (dBin rDix (dVar 0) (dC (.str "digits"))) (dC (.int 0)))) (dTest (dBin (rI2 (fun _ _ => True) fun i j => .bl (decide (i < j))) (dBin rDix (dVar 0) (dC (.str "at"))) (dCall cLen (dCons (dBin rDix (dVar 0) (dC (.str "cells"))) dNil))))) (dSeq (dAsg (dBin rIx (dBin rDix (dVar 0) (dC (.str "cells"))) (dBin rDix (dVar 0) (dC (.str "at")))) (dgName 2))
  (dSeq (dDput (dVar 0) (dC (.str "at")) (dBin rAdd (dBin rDix (dVar 0) (dC (.str "at"))) (dC (.int 1))))
  (dIf (dTest (dBin (rI2 (fun _ _ => True) fun i j => .bl (decide (j ≤ i))) (dVar 2) (dBin (rI2 CPow fun i j => .int (i ^ j.toNat)) (dC (.int 10)) (dC (.int 18))))) (dDput (dVar 0) (dC (.str "digits")) (dBin (rI2 (fun _ _ => True) fun i j => .int (i - j)) (dVar 2) (dBin (rI2 CPow fun i j => .int (i ^ j.toNat)) (dC (.int 10)) (dC (.int 18))))) (dDput (dVar 0) (dC (.str "fold")) (dBin (rI2 (fun _ j => 0 < j) fun i j => .int (i % j)) (dCall cInt (dCons (dBin rAdd (dBin (rI2 CMulW fun i j => .int (i * j)) (dBin rDix (dVar 0) (dC (.str "fold"))) (dC (.int 69069))) (dVar 2)) dNil)) (dC (.int 2147483587))))))) dNext)
  (dSeq (dIf (dTest (dBin (rI2 (fun _ _ => True) fun i j => .bl (decide (j < i))) (dBin rDix (dVar 0) (dC (.str "digits"))) (dC (.int 0)))) (dSeq (dAsg (dBin (rI2 (fun _ j => 0 < j) fun i j => .int (i % j)) (dCall cInt (dCons (dBin rDix (dVar 0) (dC (.str "digits"))) dNil)) (dVar 1)) (dgName 3))
  (dSeq (dDput (dVar 0) (dC (.str "digits")) (dBin (rI2 CDivW fun i j => .int (i / j)) (dBin rDix (dVar 0) (dC (.str "digits"))) (dVar 1)))
  (dRet (dVar 3)))) dNext)
  (dSeq (dAsg (dBin (rI2 (fun _ j => 0 < j) fun i j => .int (i % j)) (dCall cInt (dCons (dBin rAdd (dBin rAdd (dBin (rI2 CMulW fun i j => .int (i * j)) (dBin rDix (dVar 0) (dC (.str "fold"))) (dC (.int 48271))) (dBin (rI2 CMulW fun i j => .int (i * j)) (dBin rDix (dVar 0) (dC (.str "count"))) (dC (.int 7919)))) (dC (.int 13))) dNil)) (dC (.int 2147483647))) (dgName 4))
  (dSeq (dAsg (dBin (rI2 (fun _ j => 0 < j) fun i j => .int (i % j)) (dCall cInt (dCons (dBin rAdd (dBin rAdd (dBin (rI2 CMulW fun i j => .int (i * j)) (dVar 4) (dVar 4)) (dBin (rI2 CMulW fun i j => .int (i * j)) (dC (.int 31)) (dVar 4))) (dBin rDix (dVar 0) (dC (.str "count")))) dNil)) (dC (.int 2147483629))) (dgName 4))
  (dSeq (dDput (dVar 0) (dC (.str "fold")) (dBin (rI2 (fun _ j => 0 < j) fun i j => .int (i % j)) (dCall cInt (dCons (dBin rAdd (dBin (rI2 CMulW fun i j => .int (i * j)) (dVar 4) (dC (.int 16807))) (dC (.int 7))) dNil)) (dC (.int 2147483647))))
  (dRet (dBin (rI2 (fun _ j => 0 < j) fun i j => .int (i % j)) (dCall cInt (dCons (dBin (rI2 CDivW fun i j => .int (i / j)) (dVar 4) (dC (.int 64))) dNil)) (dVar 1)))))))))
def bPick : DXS → DS := fun Wd => (dRet (dBin rIx (dVar 1) (dCallF spDraw Wd (dCons (dVar 0) (dCons (dCall cLen (dCons (dVar 1) dNil)) dNil)))))
theorem log2_lt {i : Int} {k : Nat} (h1 : 0 ≤ i) (h2 : i < 2 ^ k) (hk : k ≠ 0 := by decide) : i.natAbs.log2 < k := by
  by_cases h0 : i.natAbs = 0
  · rw [h0]; simpa using Nat.pos_of_ne_zero hk
  · refine (Nat.log2_lt h0).mpr ?_
    have e : ((i.natAbs : Nat) : Int) = i := Int.natAbs_of_nonneg h1
    exact_mod_cast (by rw [e]; exact h2 : ((i.natAbs : Nat) : Int) < ((2 ^ k : Nat) : Int))
theorem mulW {i j : Int} {a b : Nat} (h1 : 0 ≤ i) (h2 : i < 2 ^ a) (h3 : 0 ≤ j) (h4 : j < 2 ^ b) (ha : a ≠ 0 := by decide) (hb : b ≠ 0 := by decide) (hab : a + b ≤ 1000000 := by decide) : CMulW i j := by
  have := log2_lt h1 h2 ha
  have := log2_lt h3 h4 hb
  unfold CMulW
  omega
theorem divW {j : Int} {b : Nat} (h1 : 0 < j) (h2 : j < 2 ^ b) (hb : b ≠ 0 := by decide) (h9 : b ≤ 9000 := by decide) : CDivW 0 j := ⟨h1, Nat.lt_of_lt_of_le (log2_lt (Int.le_of_lt h1) h2 hb) h9⟩
theorem for_inv {g : DG} {b : DS} {D : DEnds} {xs : List Dq.D} {ρ : Ds} {M : Mm} (I : List Dq.D → Ds → Mm → Prop)
    (step : ∀ x r ρ M (D' : DEnds), I (x :: r) ρ M → (∀ ρ M, I r ρ M → D'.nx ρ M) → (∀ ρ M, I r ρ M → D'.ct ρ M) → D'.bk = D.nx → D'.rt = D.rt → g x ρ M fun ρ1 M1 => b D' ρ1 M1)
    (fin : ∀ ρ M, I [] ρ M → D.nx ρ M) (h : I xs ρ M) : dForL g b xs D ρ M := by
  induction xs generalizing ρ M with
  | nil => exact fin ρ M h
  | cons x r ih => exact step x r ρ M _ h (fun ρ M z => ih z) (fun ρ M z => ih z) rfl rfl
theorem pure_pen : ∀ ds M Q E, spPen ds M Q E → bPen (fun C fs _ M' => E C fs M') { nx := fun _ M' => Q .non M', rt := Q } (dstart ["script", "fold", "cell"] ds) M := by
  rintro ds M Q E ⟨ns, rfl, hl, h⟩
  unfold bPen
  show dForL _ _ (ns.map D.int) _ [some (.scr ns), some (.int 0), none] M
  refine for_inv (fun r ρ M' => M' = M ∧ ∃ (l : List Int) (f : Int) (c : Option D), r = l.map D.int ∧ ρ = [some (.scr ns), some (.int f), c] ∧ 0 ≤ f ∧ f < 1000000007) ?_ ?_ ⟨rfl, ns, 0, none, rfl, rfl, by decide, by decide⟩
  · rintro x r ρ M' D' ⟨rfl, l, f, c, hr, rfl, h0, h1⟩ hn hc hb ht
    match l, hr with
    | i :: l, hr =>
      cases hr
      show CMulW f 47 ∧ (0 : Int) < 1000000007 ∧ D'.nx [some (.scr ns), some (.int ((f * 47 + i) % 1000000007)), some (.int i)] M'
      exact ⟨mulW (a := 40) (b := 8) h0 (by omega) (by decide) (by decide), by decide, hn _ _ ⟨rfl, l, _, _, rfl, rfl, by omega, by omega⟩⟩
  · rintro ρ M' ⟨rfl, l, f, c, hr, rfl, h0, h1⟩
    show ∀ p, M' p = none → (M'.set p (.dic [])) p = some (.dic []) ∧ Q (.ref p) ((M'.set p (.dic [])).set p (.dic (penK ns 0 0 0 f)))
    intro p hp
    rw [Mm.set_set]
    exact ⟨Mm.set_same, h p _ hp ⟨ns, 0, 0, 0, f, rfl, by decide, by decide, by decide, h0, by omega, hl⟩⟩
theorem dicAt_set {M : Mm} {p : Addr} {l : List (Key × D)} : dicAt (M.set p (.dic l)) p = some l := by unfold dicAt; rw [Mm.set_same]
theorem Mm.set_eq {M : Mm} {p : Addr} {o : MO} (h : M p = some o) : M.set p o = M := by
  funext b
  by_cases e : b = p
  · rw [e, Mm.set_same, h]
  · rw [Mm.set_ne e]
section
variable {M : Mm} {p : Addr} {ns : List Int} {a d c f z : Int} {Q : DK}
theorem get_cells : dget (penK ns a d c f) (Sum.inr "cells") = some (.lst (ns.map D.int)) := rfl
theorem get_at : dget (penK ns a d c f) (Sum.inr "at") = some (.int a) := rfl
theorem get_digits : dget (penK ns a d c f) (Sum.inr "digits") = some (.int d) := rfl
theorem get_count : dget (penK ns a d c f) (Sum.inr "count") = some (.int c) := rfl
theorem get_fold : dget (penK ns a d c f) (Sum.inr "fold") = some (.int f) := rfl
theorem put_at : dput (penK ns a d c f) (Sum.inr "at") (.int z) = penK ns z d c f := rfl
theorem put_digits : dput (penK ns a d c f) (Sum.inr "digits") (.int z) = penK ns a z c f := rfl
theorem put_count : dput (penK ns a d c f) (Sum.inr "count") (.int z) = penK ns a d z f := rfl
theorem put_fold : dput (penK ns a d c f) (Sum.inr "fold") (.int z) = penK ns a d c z := rfl
theorem penK_len : (penK ns a d c f).length = 5 := rfl
end
theorem pure_draw : ∀ ds M Q E, spDraw ds M Q E → bDraw (fun C fs _ M' => E C fs M') { nx := fun _ M' => Q .non M', rt := Q } (dstart ["pen", "many", "cell", "digit", "blend"] ds) M := by
  rintro ds M Q E ⟨p, many, P, n, rfl, hm, hm2, hM, ⟨ns, at_, dg, ct, fo, rfl, h1, h2, h3, h4, h5, h6⟩, hn, k⟩
  have e : dstart ["pen", "many", "cell", "digit", "blend"] [.ref p, .int many] = [some (.ref p), some (.int many), none, none, none] := rfl
  rw [e, ← Mm.set_eq hM]
  unfold bDraw
  simp only [dSeq, dAsg, dC, dgName, dVar, slot, List.set_cons_zero, List.set_cons_succ, dIf, dAnd, dTest, dBin, rDix, dpairs, dkey, dDput, dCall, dCons, dNil, dNext, dRet, rAdd, rI2, rIx, cLen, cInt, dicAt_set, Mm.set_set, get_cells, get_at, get_digits, get_count, get_fold, put_at, put_digits, put_count, put_fold, penK_len, rEq', rLen]
  have hsz : 5 < sizeLine := by rw [sizeLine_eq]; decide
  have hn' : (n : Int) < 1000000000000000000 := by unfold topN at hn; omega
  have hpow : CPow 10 18 := ⟨by decide, by decide, by decide⟩
  have hd1 : ∀ x, CDivW x many := fun x => divW (b := 62) hm (by omega)
  have hd2 : ∀ x, CDivW x 64 := fun x => divW (b := 8) (by decide) (by decide)
  have fin : ∀ (r a d f : Int), 0 ≤ a → 0 ≤ f → f < 4294967296 → Q (.int (r % many)) (M.set p (.dic (penK ns a d (ct + 1) f))) := fun r a d f q1 q2 q3 =>
    k _ _ (Int.emod_nonneg _ (by omega)) (Int.emod_lt_of_pos _ hm) ⟨ns, a, d, ct + 1, f, rfl, q1, by omega, by push_cast; omega, q2, q3, h6⟩
  have hz : at_ < ((ns.map D.int).length : Nat) → ∀ M', ∃ z, dAt M' (.lst (ns.map D.int)) at_ = some (.int z) := fun hlt M' => by
    rw [List.length_map] at hlt
    show ∃ z, atI (ns.map D.int) at_ = some (.int z)
    rw [atI_map]
    unfold atI ixN
    rw [if_pos h1, if_pos hlt]
    refine ⟨ns[at_.toNat]'(by omega), ?_⟩
    show ((ns[at_.toNat]?).map D.int) = _
    rw [List.getElem?_eq_getElem (by omega)]
    rfl
  have i1 := fun x : Int => Int.emod_nonneg x (b := 2147483647) (by decide)
  have i2 := fun x : Int => Int.emod_lt_of_pos x (b := 2147483647) (by decide)
  have i3 := fun x : Int => Int.emod_nonneg x (b := 2147483629) (by decide)
  have i4 := fun x : Int => Int.emod_lt_of_pos x (b := 2147483629) (by decide)
  have i5 := fun x : Int => Int.emod_nonneg x (b := 2147483587) (by decide)
  have i6 := fun x : Int => Int.emod_lt_of_pos x (b := 2147483587) (by decide)
  have m1 : ∀ x y : Int, 0 ≤ x → x < 4294967296 → 0 ≤ y → y < 4294967296 → CMulW x y := fun x y a b c d => mulW (a := 32) (b := 32) a (by omega) c (by omega)
  have m2 : CMulW (ct + 1) 7919 := mulW (a := 62) (b := 32) (by omega) (by omega) (by decide) (by decide)
  have tail : ∀ (a d f : Int), 0 ≤ a → 0 ≤ f → f < 4294967296 → CMulW f 48271 ∧ CMulW (ct + 1) 7919 ∧ (0 : Int) < 2147483647 ∧
      CMulW ((f * 48271 + (ct + 1) * 7919 + 13) % 2147483647) ((f * 48271 + (ct + 1) * 7919 + 13) % 2147483647) ∧ CMulW 31 ((f * 48271 + (ct + 1) * 7919 + 13) % 2147483647) ∧ (0 : Int) < 2147483629 ∧
      CMulW (((f * 48271 + (ct + 1) * 7919 + 13) % 2147483647 * ((f * 48271 + (ct + 1) * 7919 + 13) % 2147483647) + 31 * ((f * 48271 + (ct + 1) * 7919 + 13) % 2147483647) + (ct + 1)) % 2147483629) 16807 ∧ (0 : Int) < 2147483647 ∧ 5 < sizeLine ∧
      CDivW (((f * 48271 + (ct + 1) * 7919 + 13) % 2147483647 * ((f * 48271 + (ct + 1) * 7919 + 13) % 2147483647) + 31 * ((f * 48271 + (ct + 1) * 7919 + 13) % 2147483647) + (ct + 1)) % 2147483629) 64 ∧ 0 < many ∧
      Q (.int (((f * 48271 + (ct + 1) * 7919 + 13) % 2147483647 * ((f * 48271 + (ct + 1) * 7919 + 13) % 2147483647) + 31 * ((f * 48271 + (ct + 1) * 7919 + 13) % 2147483647) + (ct + 1)) % 2147483629 / 64 % many))
        (M.set p (.dic (penK ns a d (ct + 1) ((((f * 48271 + (ct + 1) * 7919 + 13) % 2147483647 * ((f * 48271 + (ct + 1) * 7919 + 13) % 2147483647) + 31 * ((f * 48271 + (ct + 1) * 7919 + 13) % 2147483647) + (ct + 1)) % 2147483629 * 16807 + 7) % 2147483647)))) := by
    intro a d f q1 q2 q3
    refine ⟨m1 _ _ q2 q3 (by decide) (by decide), m2, by decide, m1 _ _ (i1 _) (Int.lt_trans (i2 _) (by decide)) (i1 _) (Int.lt_trans (i2 _) (by decide)), m1 _ _ (by decide) (by decide) (i1 _) (Int.lt_trans (i2 _) (by decide)), by decide,
      m1 _ _ (i3 _) (Int.lt_trans (i4 _) (by decide)) (by decide) (by decide), by decide, hsz, hd2 _, hm, fin _ _ _ _ q1 (i1 _) (Int.lt_trans (i2 _) (by decide))⟩
  have rest : ∀ (a d f : Int), 0 ≤ a → 0 ≤ f → f < 4294967296 → (if decide (0 < d) = true then 0 < many ∧ CDivW d many ∧ 5 < sizeLine ∧ Q (.int (d % many)) (M.set p (.dic (penK ns a (d / many) (ct + 1) f))) else _) := fun a d f q1 q2 q3 => by
    by_cases hd : decide (0 < d) = true
    · rw [if_pos hd]; exact ⟨hm, hd1 _, hsz, fin _ _ _ _ q1 q2 q3⟩
    · rw [if_neg hd]; exact tail a d f q1 q2 q3
  refine ⟨hsz, ?_⟩
  by_cases c1 : decide (dg = 0) = true
  · rw [if_pos c1]
    refine ⟨trivial, ?_⟩
    by_cases c2 : decide (at_ < ((ns.map D.int).length : Nat)) = true
    · rw [if_pos c2]
      obtain ⟨z, ez⟩ := hz (of_decide_eq_true c2) (M.set p (.dic (penK ns at_ dg (ct + 1) fo)))
      rw [ez]
      refine ⟨hsz, hpow, trivial, ?_⟩
      by_cases c3 : decide ((10 : Int) ^ Int.toNat 18 ≤ z) = true
      · rw [if_pos c3]
        exact ⟨hpow, trivial, hsz, trivial, rest _ _ _ (by omega) h4 h5⟩
      · rw [if_neg c3]
        exact ⟨m1 _ _ h4 h5 (by decide) (by decide), by decide, hsz, trivial, rest _ _ _ (by omega) (i5 _) (Int.lt_trans (i6 _) (by decide))⟩
    · rw [if_neg c2]
      exact ⟨trivial, rest _ dg _ h1 h4 h5⟩
  · rw [if_neg c1]
    exact ⟨trivial, rest _ dg _ h1 h4 h5⟩
theorem at_mem {α : Type} {xs : List α} {i : Int} (h0 : 0 ≤ i) (h1 : i < xs.length) : ∃ x, atI xs i = some x ∧ x ∈ xs := by
  unfold atI ixN
  rw [if_pos h0, if_pos h1]
  refine ⟨xs[i.toNat]'(by omega), ?_, List.getElem_mem _⟩
  show xs[i.toNat]? = _
  exact List.getElem?_eq_getElem (by omega)
theorem pure_pick : ∀ ds M Q E, spPick ds M Q E → bPick (fun C fs _ M' => E C fs M') { nx := fun _ M' => Q .non M', rt := Q } (dstart ["pen", "some"] ds) M := by
  rintro ds M Q E ⟨p, d, xs, P, n, rfl, hi, hne, hl, hM, hp, hn, k⟩
  have hpos : 0 < xs.length := List.length_pos_iff.mpr hne
  have go : ∀ (l : Dq.D), (∀ M' (i : Int), 0 ≤ i → i < xs.length → ∃ x, dAt M' l i = some x ∧ x ∈ xs) → ∀ P' (r : Int), 0 ≤ r → r < xs.length → PenOk (n + 1) P' → (match dAt (M.set p (.dic P')) l r with | some d => Q d (M.set p (.dic P')) | none => False) := by
    intro l hl P' r h0 h1 hp'
    obtain ⟨x, ex, mx⟩ := hl (M.set p (.dic P')) r h0 h1
    rw [ex]
    exact k x P' mx hp'
  cases d with
  | lst l =>
    cases hi
    unfold bPick
    simp only [dRet, dBin, dVar, slot, dCallF, dCons, dCall, cLen, rLen, dNil, dstart, List.map_cons, List.map_nil, List.cons_append]
    refine ⟨p, _, P, n, rfl, by omega, by omega, hM, hp, hn, fun r P' h0 h1 hp' => ?_⟩
    exact go (.lst xs) (fun M' i h0 h1 => at_mem h0 h1) P' r h0 h1 hp'
  | tup l =>
    cases hi
    unfold bPick
    simp only [dRet, dBin, dVar, slot, dCallF, dCons, dCall, cLen, rLen, dNil, dstart, List.map_cons, List.map_nil, List.cons_append]
    refine ⟨p, _, P, n, rfl, by omega, by omega, hM, hp, hn, fun r P' h0 h1 hp' => ?_⟩
    exact go (.tup xs) (fun M' i h0 h1 => at_mem h0 h1) P' r h0 h1 hp'
  | scr ns =>
    cases hi
    rw [List.length_map] at hl hpos
    unfold bPick
    simp only [dRet, dBin, dVar, slot, dCallF, dCons, dCall, cLen, rLen, dNil, dstart, List.map_cons, List.map_nil, List.cons_append]
    refine ⟨p, _, P, n, rfl, by omega, by omega, hM, hp, hn, fun r P' h0 h1 hp' => ?_⟩
    refine go (.scr ns) (fun M' i h0 h1 => ?_) P' r h0 (by rw [List.length_map]; exact h1) hp'
    obtain ⟨x, ex, mx⟩ := at_mem h0 h1
    exact ⟨x, by rw [atI_map] at ex; exact ex, mx⟩
  | _ => cases hi
end Dq
set_option maxHeartbeats 4000000
namespace K01
open PySem PySem.Spec PyProof.Rows L2 Dq
open PySem.W (findIn typeIn keepIn)
def top (i : Nat) : Stmt := PySem.Challenge.pw_hiddenmoves_k01_errors_as_told.main.body.getD i (.Pass ⟨0, 0, 0, 0⟩)
abbrev s_pen : Stmt := top 20
abbrev s_draw : Stmt := top 21
abbrev s_pick : Stmt := top 22
abbrev s_kinds : Stmt := top 23
abbrev s_more_kinds : Stmt := top 24
abbrev s_any_field : Stmt := top 25
abbrev s_raised : Stmt := top 26
abbrev s_raised_too : Stmt := top 27
abbrev s_told : Stmt := top 28
abbrev s_due : Stmt := top 29
abbrev s_law : Stmt := top 30
abbrev i_BadNumber : Stmt := inClass (top 2) 0
abbrev i_BadRow : Stmt := inClass (top 3) 0
abbrev i_BadTable : Stmt := inClass (top 4) 0
abbrev i_BadTree : Stmt := inClass (top 5) 0
abbrev i_BadPlan : Stmt := inClass (top 6) 0
abbrev i_BadBook : Stmt := inClass (top 7) 0
abbrev i_BadName : Stmt := inClass (top 8) 0
abbrev i_BadText : Stmt := inClass (top 9) 0
abbrev i_NoPlace : Stmt := inClass (top 10) 0
abbrev i_NoName : Stmt := inClass (top 11) 0
abbrev i_TakenName : Stmt := inClass (top 12) 0
abbrev i_Unlike : Stmt := inClass (top 13) 0
abbrev i_NotThere : Stmt := inClass (top 14) 0
abbrev i_TooMany : Stmt := inClass (top 15) 0
abbrev i_NotKept : Stmt := inClass (top 16) 0
def allF : List Str := ["what", "number", "row", "name", "line", "word", "index", "paper", "many", "limit", "promise", "witness"]
theorem sc_pen : FnScope ["script", "fold", "cell"] ["script"] (defScope s_pen) := ⟨rfl, rfl, rfl, by decide +kernel, rfl, by decide +kernel, by decide +kernel⟩
theorem sc_draw : FnScope ["pen", "many", "cell", "digit", "blend"] ["pen", "many"] (defScope s_draw) := ⟨rfl, rfl, rfl, by decide +kernel, rfl, by decide +kernel, by decide +kernel⟩
theorem sc_pick : FnScope ["pen", "some"] ["pen", "some"] (defScope s_pick) := ⟨rfl, rfl, rfl, by decide +kernel, rfl, by decide +kernel, by decide +kernel⟩
theorem sc_kinds : FnScope ["e", "found"] ["e"] (defScope s_kinds) := ⟨rfl, rfl, rfl, by decide +kernel, rfl, by decide +kernel, by decide +kernel⟩
theorem sc_more_kinds : FnScope ["e", "found"] ["e"] (defScope s_more_kinds) := ⟨rfl, rfl, rfl, by decide +kernel, rfl, by decide +kernel, by decide +kernel⟩
theorem sc_any_field : FnScope ["pen", "way"] ["pen"] (defScope s_any_field) := ⟨rfl, rfl, rfl, by decide +kernel, rfl, by decide +kernel, by decide +kernel⟩
theorem sc_raised : FnScope ["kind", "one", "two", "three"] ["kind", "one", "two", "three"] (defScope s_raised) := ⟨rfl, rfl, rfl, by decide +kernel, rfl, by decide +kernel, by decide +kernel⟩
theorem sc_raised_too : FnScope ["kind", "one", "two", "three"] ["kind", "one", "two", "three"] (defScope s_raised_too) := ⟨rfl, rfl, rfl, by decide +kernel, rfl, by decide +kernel, by decide +kernel⟩
theorem sc_told : FnScope ["kind", "one", "two", "three", "found", "e"] ["kind", "one", "two", "three"] (defScope s_told) := ⟨rfl, rfl, rfl, by decide +kernel, rfl, by decide +kernel, by decide +kernel⟩
theorem sc_due : FnScope ["kind", "one", "two", "three", "words"] ["kind", "one", "two", "three"] (defScope s_due) := ⟨rfl, rfl, rfl, by decide +kernel, rfl, by decide +kernel, by decide +kernel⟩
theorem sc_law : FnScope ["script", "pen", "kind", "one", "two", "three", "told"] ["script"] (defScope s_law) := ⟨rfl, rfl, rfl, by decide +kernel, rfl, by decide +kernel, by decide +kernel⟩
theorem sci_BadNumber : FnScope ["self", "what", "number"] ["self", "what", "number"] (defScope i_BadNumber) := ⟨rfl, rfl, rfl, by decide +kernel, rfl, by decide +kernel, by decide +kernel⟩
theorem sci_BadRow : FnScope ["self", "what", "row"] ["self", "what", "row"] (defScope i_BadRow) := ⟨rfl, rfl, rfl, by decide +kernel, rfl, by decide +kernel, by decide +kernel⟩
theorem sci_BadTable : FnScope ["self", "what"] ["self", "what"] (defScope i_BadTable) := ⟨rfl, rfl, rfl, by decide +kernel, rfl, by decide +kernel, by decide +kernel⟩
theorem sci_BadTree : FnScope ["self", "what"] ["self", "what"] (defScope i_BadTree) := ⟨rfl, rfl, rfl, by decide +kernel, rfl, by decide +kernel, by decide +kernel⟩
theorem sci_BadPlan : FnScope ["self", "what"] ["self", "what"] (defScope i_BadPlan) := ⟨rfl, rfl, rfl, by decide +kernel, rfl, by decide +kernel, by decide +kernel⟩
theorem sci_BadBook : FnScope ["self", "what"] ["self", "what"] (defScope i_BadBook) := ⟨rfl, rfl, rfl, by decide +kernel, rfl, by decide +kernel, by decide +kernel⟩
theorem sci_BadName : FnScope ["self", "name"] ["self", "name"] (defScope i_BadName) := ⟨rfl, rfl, rfl, by decide +kernel, rfl, by decide +kernel, by decide +kernel⟩
theorem sci_BadText : FnScope ["self", "line", "word"] ["self", "line", "word"] (defScope i_BadText) := ⟨rfl, rfl, rfl, by decide +kernel, rfl, by decide +kernel, by decide +kernel⟩
theorem sci_NoPlace : FnScope ["self", "what", "index"] ["self", "what", "index"] (defScope i_NoPlace) := ⟨rfl, rfl, rfl, by decide +kernel, rfl, by decide +kernel, by decide +kernel⟩
theorem sci_NoName : FnScope ["self", "name"] ["self", "name"] (defScope i_NoName) := ⟨rfl, rfl, rfl, by decide +kernel, rfl, by decide +kernel, by decide +kernel⟩
theorem sci_TakenName : FnScope ["self", "name"] ["self", "name"] (defScope i_TakenName) := ⟨rfl, rfl, rfl, by decide +kernel, rfl, by decide +kernel, by decide +kernel⟩
theorem sci_Unlike : FnScope ["self", "what"] ["self", "what"] (defScope i_Unlike) := ⟨rfl, rfl, rfl, by decide +kernel, rfl, by decide +kernel, by decide +kernel⟩
theorem sci_NotThere : FnScope ["self", "paper"] ["self", "paper"] (defScope i_NotThere) := ⟨rfl, rfl, rfl, by decide +kernel, rfl, by decide +kernel, by decide +kernel⟩
theorem sci_TooMany : FnScope ["self", "what", "many", "limit"] ["self", "what", "many", "limit"] (defScope i_TooMany) := ⟨rfl, rfl, rfl, by decide +kernel, rfl, by decide +kernel, by decide +kernel⟩
theorem sci_NotKept : FnScope ["self", "promise", "witness"] ["self", "promise", "witness"] (defScope i_NotKept) := ⟨rfl, rfl, rfl, by decide +kernel, rfl, by decide +kernel, by decide +kernel⟩
/-! ### the promises -/
theorem len_pen : ∀ ds M Q E, spPen ds M Q E → ds.length = (["script"] : List Str).length := by rintro ds M Q E ⟨ns, rfl, _⟩; rfl
theorem len_draw : ∀ ds M Q E, spDraw ds M Q E → ds.length = (["pen", "many"] : List Str).length := by rintro ds M Q E ⟨_, _, _, _, rfl, _⟩; rfl
theorem len_pick : ∀ ds M Q E, spPick ds M Q E → ds.length = (["pen", "some"] : List Str).length := by rintro ds M Q E ⟨_, _, _, _, _, rfl, _⟩; rfl
def AnyF (d : D) : Prop := ∃ p, D.px d = some p ∧ Okp 200 6 p
def sh (x : D) : Str := match D.px x with | some p => p.shown | none => ""
def due : Nat → D → D → D → D
  | 0, a, b, _ => .tup [.str "number", a, .str (sh b)]
  | 1, a, b, _ => .tup [.str "row", a, .str (sh b)]
  | 2, a, _, _ => .tup [.str "table", a]
  | 3, a, _, _ => .tup [.str "tree", a]
  | 4, a, _, _ => .tup [.str "plan", a]
  | 5, a, _, _ => .tup [.str "book", a]
  | 6, a, _, _ => .tup [.str "badname", .str (sh a)]
  | 7, a, b, _ => .tup [.str "text", a, b]
  | 8, a, b, _ => .tup [.str "place", a, .str (sh b)]
  | 9, a, _, _ => .tup [.str "noname", .str (sh a)]
  | 10, a, _, _ => .tup [.str "taken", .str (sh a)]
  | 11, a, _, _ => .tup [.str "unlike", a]
  | 12, a, _, _ => .tup [.str "notthere", a]
  | 13, a, b, d => .tup [.str "many", a, b, d]
  | 14, a, b, _ => .tup [.str "kept", a, b]
  | 15, _, _, _ => .tup [.str "undo"]
  | _, _, _, _ => .tup [.str "redo"]
def flK : Nat → D → D → D → List (Str × D)
  | 0, a, b, _ => [("what", a), ("number", b)]
  | 1, a, b, _ => [("what", a), ("row", b)]
  | 2, a, _, _ => [("what", a)]
  | 3, a, _, _ => [("what", a)]
  | 4, a, _, _ => [("what", a)]
  | 5, a, _, _ => [("what", a)]
  | 6, a, _, _ => [("name", a)]
  | 7, a, b, _ => [("line", a), ("word", b)]
  | 8, a, b, _ => [("what", a), ("index", b)]
  | 9, a, _, _ => [("name", a)]
  | 10, a, _, _ => [("name", a)]
  | 11, a, _, _ => [("what", a)]
  | 12, a, _, _ => [("paper", a)]
  | 13, a, b, d => [("what", a), ("many", b), ("limit", d)]
  | 14, a, b, _ => [("promise", a), ("witness", b)]
  | _, _, _, _ => []
section
def sp_any_field (c : Nat → Addr) : DSp := fun ds M Q _ => ∃ p P n, ds = [.ref p] ∧ M p = some (.dic P) ∧ PenOk n P ∧ n + 3 < topN ∧ ∀ d P', AnyF d → PenOk (n + 2) P' → Q d (M.set p (.dic P'))
def sp_raised (c : Nat → Addr) : DSp := fun ds M Q E => ∃ (k : Nat) (a b d : D), ds = [.int k, a, b, d] ∧ k < 17 ∧ (k ≤ 8 → E (c (k + 1)) (flK k a b d) M) ∧ (9 ≤ k → Q .non M)
def sp_raised_too (c : Nat → Addr) : DSp := fun ds M Q E => ∃ (k : Nat) (a b d : D), ds = [.int k, a, b, d] ∧ k < 17 ∧ 9 ≤ k ∧ E (c (k + 1)) (flK k a b d) M
def sp_kinds (c : Nat → Addr) : ESp := fun q C fl ds M Q _ => ds = [.ref q] ∧ ∃ (k : Nat) (a b d : D), k < 17 ∧ C = c (k + 1) ∧ fl = flK k a b d ∧ AnyF a ∧ AnyF b ∧ Q (.lst [due k a b d]) M
def sp_more_kinds (c : Nat → Addr) : ESp := fun q C fl ds M Q _ => ds = [.ref q] ∧ ∃ (k : Nat) (a b d : D), k < 17 ∧ C = c (k + 1) ∧ fl = flK k a b d ∧ AnyF a ∧ AnyF b ∧ Q (.lst (if k ≤ 8 then [] else [due k a b d])) M
def sp_told (c : Nat → Addr) : DSp := fun ds M Q _ => ∃ (k : Nat) (a b d : D), ds = [.int k, a, b, d] ∧ k < 17 ∧ AnyF a ∧ AnyF b ∧ Q (.lst [due k a b d]) M
def sp_due (c : Nat → Addr) : DSp := fun ds M Q _ => ∃ (k : Nat) (a b d : D), ds = [.int k, a, b, d] ∧ k < 17 ∧ AnyF a ∧ AnyF b ∧ Q (due k a b d) M
def sp_law (c : Nat → Addr) : DSp := fun ds M Q _ => ∃ ns, ds = [.scr ns] ∧ ns.length ≤ 63 ∧ M = (fun _ => none) ∧ ∀ M', Q (.bl true) M'
end
theorem len_any_field {c : Nat → Addr} : ∀ ds M Q E, sp_any_field c ds M Q E → ds.length = (["pen"] : List Str).length := by rintro ds M Q E ⟨_, _, _, rfl, _⟩; rfl
theorem len_raised {c : Nat → Addr} : ∀ ds M Q E, sp_raised c ds M Q E → ds.length = (["kind", "one", "two", "three"] : List Str).length := by rintro ds M Q E ⟨_, _, _, _, rfl, _⟩; rfl
theorem len_raised_too {c : Nat → Addr} : ∀ ds M Q E, sp_raised_too c ds M Q E → ds.length = (["kind", "one", "two", "three"] : List Str).length := by rintro ds M Q E ⟨_, _, _, _, rfl, _⟩; rfl
theorem len_told {c : Nat → Addr} : ∀ ds M Q E, sp_told c ds M Q E → ds.length = (["kind", "one", "two", "three"] : List Str).length := by rintro ds M Q E ⟨_, _, _, _, rfl, _⟩; rfl
theorem len_due {c : Nat → Addr} : ∀ ds M Q E, sp_due c ds M Q E → ds.length = (["kind", "one", "two", "three"] : List Str).length := by rintro ds M Q E ⟨_, _, _, _, rfl, _⟩; rfl
theorem len_law {c : Nat → Addr} : ∀ ds M Q E, sp_law c ds M Q E → ds.length = (["script"] : List Str).length := by rintro ds M Q E ⟨_, rfl, _⟩; rfl
theorem len_kinds {c : Nat → Addr} : ∀ q C fl ds M Q E, sp_kinds c q C fl ds M Q E → ds.length = (["e"] : List Str).length := by rintro q C fl ds M Q E ⟨rfl, _⟩; rfl
theorem in_kinds {c : Nat → Addr} {q C : Addr} {fl : List (Str × D)} (h : ∃ ds M Q E, sp_kinds c q C fl ds M Q E) : C ∈ allC c 18 := by obtain ⟨_, _, _, _, rfl, k, _, _, _, hk, rfl, _⟩ := h; exact mem_allC (by omega)
theorem len_more_kinds {c : Nat → Addr} : ∀ q C fl ds M Q E, sp_more_kinds c q C fl ds M Q E → ds.length = (["e"] : List Str).length := by rintro q C fl ds M Q E ⟨rfl, _⟩; rfl
theorem in_more_kinds {c : Nat → Addr} {q C : Addr} {fl : List (Str × D)} (h : ∃ ds M Q E, sp_more_kinds c q C fl ds M Q E) : C ∈ allC c 18 := by obtain ⟨_, _, _, _, rfl, k, _, _, _, hk, rfl, _⟩ := h; exact mem_allC (by omega)
theorem roomE_hot {k : Nat} {A : Around} {v : Option Value} (hr : RoomG k A) : RoomE k (A.mark v) := ⟨⟨hr.room.dp, hr.room.un⟩, hr.gd⟩

def b_kinds (c : Nat → Addr) (q C : Addr) (fl : List (Str × D)) : DXS → DS := fun Wd => (dSeq (dAsg (dLstM dNil) (dgName 1))
  (dSeq (dIf (dTest (dCall (cIsE q (rErr (allC c 18) C (upsC c C))) (dCons (dVar 0) (dCons (dC (.ref (c 1))) dNil)))) (dDrop (dApp (dVar 1) (dCons (dTup (dCons (dC (.str "number")) (dCons (dFld q fl "what" (dVar 0)) (dCons (dCall cRepr (dCons (dFld q fl "number" (dVar 0)) dNil)) dNil)))) dNil))) dNext)
  (dSeq (dIf (dTest (dCall (cIsE q (rErr (allC c 18) C (upsC c C))) (dCons (dVar 0) (dCons (dC (.ref (c 2))) dNil)))) (dDrop (dApp (dVar 1) (dCons (dTup (dCons (dC (.str "row")) (dCons (dFld q fl "what" (dVar 0)) (dCons (dCall cRepr (dCons (dFld q fl "row" (dVar 0)) dNil)) dNil)))) dNil))) dNext)
  (dSeq (dIf (dTest (dCall (cIsE q (rErr (allC c 18) C (upsC c C))) (dCons (dVar 0) (dCons (dC (.ref (c 3))) dNil)))) (dDrop (dApp (dVar 1) (dCons (dTup (dCons (dC (.str "table")) (dCons (dFld q fl "what" (dVar 0)) dNil))) dNil))) dNext)
  (dSeq (dIf (dTest (dCall (cIsE q (rErr (allC c 18) C (upsC c C))) (dCons (dVar 0) (dCons (dC (.ref (c 4))) dNil)))) (dDrop (dApp (dVar 1) (dCons (dTup (dCons (dC (.str "tree")) (dCons (dFld q fl "what" (dVar 0)) dNil))) dNil))) dNext)
  (dSeq (dIf (dTest (dCall (cIsE q (rErr (allC c 18) C (upsC c C))) (dCons (dVar 0) (dCons (dC (.ref (c 5))) dNil)))) (dDrop (dApp (dVar 1) (dCons (dTup (dCons (dC (.str "plan")) (dCons (dFld q fl "what" (dVar 0)) dNil))) dNil))) dNext)
  (dSeq (dIf (dTest (dCall (cIsE q (rErr (allC c 18) C (upsC c C))) (dCons (dVar 0) (dCons (dC (.ref (c 6))) dNil)))) (dDrop (dApp (dVar 1) (dCons (dTup (dCons (dC (.str "book")) (dCons (dFld q fl "what" (dVar 0)) dNil))) dNil))) dNext)
  (dSeq (dIf (dTest (dCall (cIsE q (rErr (allC c 18) C (upsC c C))) (dCons (dVar 0) (dCons (dC (.ref (c 7))) dNil)))) (dDrop (dApp (dVar 1) (dCons (dTup (dCons (dC (.str "badname")) (dCons (dCall cRepr (dCons (dFld q fl "name" (dVar 0)) dNil)) dNil))) dNil))) dNext)
  (dSeq (dIf (dTest (dCall (cIsE q (rErr (allC c 18) C (upsC c C))) (dCons (dVar 0) (dCons (dC (.ref (c 8))) dNil)))) (dDrop (dApp (dVar 1) (dCons (dTup (dCons (dC (.str "text")) (dCons (dFld q fl "line" (dVar 0)) (dCons (dFld q fl "word" (dVar 0)) dNil)))) dNil))) dNext)
  (dSeq (dIf (dTest (dCall (cIsE q (rErr (allC c 18) C (upsC c C))) (dCons (dVar 0) (dCons (dC (.ref (c 9))) dNil)))) (dDrop (dApp (dVar 1) (dCons (dTup (dCons (dC (.str "place")) (dCons (dFld q fl "what" (dVar 0)) (dCons (dCall cRepr (dCons (dFld q fl "index" (dVar 0)) dNil)) dNil)))) dNil))) dNext)
  (dRet (dBin rAdd (dFrz (dVar 1)) (dCallE (sp_more_kinds c) q C fl (fun _ _ _ _ => False) (dCons (dVar 0) dNil))))))))))))))
def b_more_kinds (c : Nat → Addr) (q C : Addr) (fl : List (Str × D)) : DXS → DS := fun Wd => (dSeq (dAsg (dLstM dNil) (dgName 1))
  (dSeq (dIf (dTest (dCall (cIsE q (rErr (allC c 18) C (upsC c C))) (dCons (dVar 0) (dCons (dC (.ref (c 10))) dNil)))) (dDrop (dApp (dVar 1) (dCons (dTup (dCons (dC (.str "noname")) (dCons (dCall cRepr (dCons (dFld q fl "name" (dVar 0)) dNil)) dNil))) dNil))) dNext)
  (dSeq (dIf (dTest (dCall (cIsE q (rErr (allC c 18) C (upsC c C))) (dCons (dVar 0) (dCons (dC (.ref (c 11))) dNil)))) (dDrop (dApp (dVar 1) (dCons (dTup (dCons (dC (.str "taken")) (dCons (dCall cRepr (dCons (dFld q fl "name" (dVar 0)) dNil)) dNil))) dNil))) dNext)
  (dSeq (dIf (dTest (dCall (cIsE q (rErr (allC c 18) C (upsC c C))) (dCons (dVar 0) (dCons (dC (.ref (c 12))) dNil)))) (dDrop (dApp (dVar 1) (dCons (dTup (dCons (dC (.str "unlike")) (dCons (dFld q fl "what" (dVar 0)) dNil))) dNil))) dNext)
  (dSeq (dIf (dTest (dCall (cIsE q (rErr (allC c 18) C (upsC c C))) (dCons (dVar 0) (dCons (dC (.ref (c 13))) dNil)))) (dDrop (dApp (dVar 1) (dCons (dTup (dCons (dC (.str "notthere")) (dCons (dFld q fl "paper" (dVar 0)) dNil))) dNil))) dNext)
  (dSeq (dIf (dTest (dCall (cIsE q (rErr (allC c 18) C (upsC c C))) (dCons (dVar 0) (dCons (dC (.ref (c 14))) dNil)))) (dDrop (dApp (dVar 1) (dCons (dTup (dCons (dC (.str "many")) (dCons (dFld q fl "what" (dVar 0)) (dCons (dFld q fl "many" (dVar 0)) (dCons (dFld q fl "limit" (dVar 0)) dNil))))) dNil))) dNext)
  (dSeq (dIf (dTest (dCall (cIsE q (rErr (allC c 18) C (upsC c C))) (dCons (dVar 0) (dCons (dC (.ref (c 15))) dNil)))) (dDrop (dApp (dVar 1) (dCons (dTup (dCons (dC (.str "kept")) (dCons (dFld q fl "promise" (dVar 0)) (dCons (dFld q fl "witness" (dVar 0)) dNil)))) dNil))) dNext)
  (dSeq (dIf (dTest (dCall (cIsE q (rErr (allC c 18) C (upsC c C))) (dCons (dVar 0) (dCons (dC (.ref (c 16))) dNil)))) (dDrop (dApp (dVar 1) (dCons (dTup (dCons (dC (.str "undo")) dNil)) dNil))) dNext)
  (dSeq (dIf (dTest (dCall (cIsE q (rErr (allC c 18) C (upsC c C))) (dCons (dVar 0) (dCons (dC (.ref (c 17))) dNil)))) (dDrop (dApp (dVar 1) (dCons (dTup (dCons (dC (.str "redo")) dNil)) dNil))) dNext)
  (dRet (dFrz (dVar 1))))))))))))
def b_any_field (c : Nat → Addr) : DXS → DS := fun Wd => (dSeq (dAsg (dCallF spDraw Wd (dCons (dVar 0) (dCons (dC (.int 8)) dNil))) (dgName 1))
  (dSeq (dIf (dTest (dBin rEq' (dVar 1) (dC (.int 0)))) (dRet (dLst (dCons (dCallF spDraw Wd (dCons (dVar 0) (dCons (dC (.int 100)) dNil))) (dCons (dLst dNil) dNil)))) dNext)
  (dSeq (dIf (dTest (dBin rEq' (dVar 1) (dC (.int 1)))) (dRet (dTup (dCons (dC (.str "a")) (dCons (dTup (dCons (dCallF spDraw Wd (dCons (dVar 0) (dCons (dBin (rI2 CPow fun i j => .int (i ^ j.toNat)) (dC (.int 10)) (dC (.int 6))) dNil))) dNil)) dNil)))) dNext)
  (dRet (dCallF spPick Wd (dCons (dVar 0) (dCons (dLst (dCons (dC .non) (dCons (dC (.bl true)) (dCons (dC (.bl false)) (dCons (dC (.int 0)) (dCons (dUn rNeg (dC (.int 1))) (dCons (dC (.str "x")) (dCons (dC (.str "")) (dCons (dBin (rI2 CPow fun i j => .int (i ^ j.toNat)) (dC (.int 10)) (dC (.int 40))) (dCons (dFrz (dDicM [(Sum.inr "k", (dC (.int 1)))])) dNil)))))))))) dNil)))))))
def b_raised (c : Nat → Addr) : DXS → DS := fun Wd => (dSeq (dIf (dTest (dBin rEq' (dVar 0) (dC (.int 0)))) (dRaise (c 1) ["what", "number"] Wd (dCons (dVar 1) (dCons (dVar 2) dNil))) dNext)
  (dSeq (dIf (dTest (dBin rEq' (dVar 0) (dC (.int 1)))) (dRaise (c 2) ["what", "row"] Wd (dCons (dVar 1) (dCons (dVar 2) dNil))) dNext)
  (dSeq (dIf (dTest (dBin rEq' (dVar 0) (dC (.int 2)))) (dRaise (c 3) ["what"] Wd (dCons (dVar 1) dNil)) dNext)
  (dSeq (dIf (dTest (dBin rEq' (dVar 0) (dC (.int 3)))) (dRaise (c 4) ["what"] Wd (dCons (dVar 1) dNil)) dNext)
  (dSeq (dIf (dTest (dBin rEq' (dVar 0) (dC (.int 4)))) (dRaise (c 5) ["what"] Wd (dCons (dVar 1) dNil)) dNext)
  (dSeq (dIf (dTest (dBin rEq' (dVar 0) (dC (.int 5)))) (dRaise (c 6) ["what"] Wd (dCons (dVar 1) dNil)) dNext)
  (dSeq (dIf (dTest (dBin rEq' (dVar 0) (dC (.int 6)))) (dRaise (c 7) ["name"] Wd (dCons (dVar 1) dNil)) dNext)
  (dSeq (dIf (dTest (dBin rEq' (dVar 0) (dC (.int 7)))) (dRaise (c 8) ["line", "word"] Wd (dCons (dVar 1) (dCons (dVar 2) dNil))) dNext)
  (dIf (dTest (dBin rEq' (dVar 0) (dC (.int 8)))) (dRaise (c 9) ["what", "index"] Wd (dCons (dVar 1) (dCons (dVar 2) dNil))) dNext)))))))))
def b_raised_too (c : Nat → Addr) : DXS → DS := fun Wd => (dSeq (dIf (dTest (dBin rEq' (dVar 0) (dC (.int 9)))) (dRaise (c 10) ["name"] Wd (dCons (dVar 1) dNil)) dNext)
  (dSeq (dIf (dTest (dBin rEq' (dVar 0) (dC (.int 10)))) (dRaise (c 11) ["name"] Wd (dCons (dVar 1) dNil)) dNext)
  (dSeq (dIf (dTest (dBin rEq' (dVar 0) (dC (.int 11)))) (dRaise (c 12) ["what"] Wd (dCons (dVar 1) dNil)) dNext)
  (dSeq (dIf (dTest (dBin rEq' (dVar 0) (dC (.int 12)))) (dRaise (c 13) ["paper"] Wd (dCons (dVar 1) dNil)) dNext)
  (dSeq (dIf (dTest (dBin rEq' (dVar 0) (dC (.int 13)))) (dRaise (c 14) ["what", "many", "limit"] Wd (dCons (dVar 1) (dCons (dVar 2) (dCons (dVar 3) dNil)))) dNext)
  (dSeq (dIf (dTest (dBin rEq' (dVar 0) (dC (.int 14)))) (dRaise (c 15) ["promise", "witness"] Wd (dCons (dVar 1) (dCons (dVar 2) dNil))) dNext)
  (dSeq (dIf (dTest (dBin rEq' (dVar 0) (dC (.int 15)))) (dRaise0 (c 16) Wd) dNext)
  (dIf (dTest (dBin rEq' (dVar 0) (dC (.int 16)))) (dRaise0 (c 17) Wd) dNext))))))))
def b_told (c : Nat → Addr) : DXS → DS := fun Wd => (dSeq (dAsg (dC .non) (dgName 4))
  (dSeq (dTryAs (fun C => decide (C ∈ (allC c 18))) 5 (fun Wd => (dSeq (dDrop (dCallF (sp_raised c) Wd (dCons (dVar 0) (dCons (dVar 1) (dCons (dVar 2) (dCons (dVar 3) dNil))))))
  (dDrop (dCallF (sp_raised_too c) Wd (dCons (dVar 0) (dCons (dVar 1) (dCons (dVar 2) (dCons (dVar 3) dNil)))))))) (fun q C fl => (dIf (dTest (dCall (cIsE q (rErr (allC c 18) C (upsC c C))) (dCons (dVar 5) (dCons (dC (.ty "ValueError")) dNil)))) (dAsg (dCallE (sp_kinds c) q C fl (fun _ _ _ _ => False) (dCons (dVar 5) dNil)) (dgName 4)) dNext)) (fun _ _ _ _ => False))
  (dRet (dVar 4))))
def b_due (c : Nat → Addr) : DXS → DS := fun Wd => (dSeq (dAsg (dLst (dCons (dC (.str "number")) (dCons (dC (.str "row")) (dCons (dC (.str "table")) (dCons (dC (.str "tree")) (dCons (dC (.str "plan")) (dCons (dC (.str "book")) (dCons (dC (.str "badname")) (dCons (dC (.str "text")) (dCons (dC (.str "place")) (dCons (dC (.str "noname")) (dCons (dC (.str "taken")) (dCons (dC (.str "unlike")) (dCons (dC (.str "notthere")) dNil)))))))))))))) (dgName 4))
  (dSeq (dAsg (dBin rAdd (dVar 4) (dLst (dCons (dC (.str "many")) (dCons (dC (.str "kept")) (dCons (dC (.str "undo")) (dCons (dC (.str "redo")) dNil)))))) (dgName 4))
  (dSeq (dIf (dTest (dBin (rIn' false) (dVar 0) (dTup (dCons (dC (.int 0)) (dCons (dC (.int 1)) (dCons (dC (.int 8)) dNil)))))) (dRet (dTup (dCons (dBin rIx (dVar 4) (dVar 0)) (dCons (dVar 1) (dCons (dCall cRepr (dCons (dVar 2) dNil)) dNil))))) dNext)
  (dSeq (dIf (dTest (dBin (rIn' false) (dVar 0) (dTup (dCons (dC (.int 2)) (dCons (dC (.int 3)) (dCons (dC (.int 4)) (dCons (dC (.int 5)) (dCons (dC (.int 11)) (dCons (dC (.int 12)) dNil))))))))) (dRet (dTup (dCons (dBin rIx (dVar 4) (dVar 0)) (dCons (dVar 1) dNil)))) dNext)
  (dSeq (dIf (dTest (dBin (rIn' false) (dVar 0) (dTup (dCons (dC (.int 6)) (dCons (dC (.int 9)) (dCons (dC (.int 10)) dNil)))))) (dRet (dTup (dCons (dBin rIx (dVar 4) (dVar 0)) (dCons (dCall cRepr (dCons (dVar 1) dNil)) dNil)))) dNext)
  (dSeq (dIf (dTest (dBin (rIn' false) (dVar 0) (dTup (dCons (dC (.int 7)) (dCons (dC (.int 14)) dNil))))) (dRet (dTup (dCons (dBin rIx (dVar 4) (dVar 0)) (dCons (dVar 1) (dCons (dVar 2) dNil))))) dNext)
  (dRet (dIfE (dTest (dBin rEq' (dVar 0) (dC (.int 13)))) (dTup (dCons (dBin rIx (dVar 4) (dVar 0)) (dCons (dVar 1) (dCons (dVar 2) (dCons (dVar 3) dNil))))) (dTup (dCons (dBin rIx (dVar 4) (dVar 0)) dNil))))))))))
def b_law (c : Nat → Addr) : DXS → DS := fun Wd => (dSeq (dAsg (dCallF spPen Wd (dCons (dVar 0) dNil)) (dgName 1))
  (dSeq (dFor (dRng1 (dCons (dC (.int 17)) dNil)) (dgName 2) (dSeq (dPar [3, 4, 5] (dCons (dCallF (sp_any_field c) Wd (dCons (dVar 1) dNil)) (dCons (dCallF (sp_any_field c) Wd (dCons (dVar 1) dNil)) (dCons (dCallF (sp_any_field c) Wd (dCons (dVar 1) dNil)) dNil))))
  (dSeq (dAsg (dCallF (sp_told c) Wd (dCons (dVar 2) (dCons (dVar 3) (dCons (dVar 4) (dCons (dVar 5) dNil))))) (dgName 6))
  (dIf (dOr (dTest (dBin rIsN (dVar 6) (dC .non))) (dOr (dTest (dBin rNe' (dCall cLen (dCons (dVar 6) dNil)) (dC (.int 1)))) (dTest (dBin rNe' (dCall cRepr (dCons (dBin rIx (dVar 6) (dC (.int 0))) dNil)) (dCall cRepr (dCons (dCallF (sp_due c) Wd (dCons (dVar 2) (dCons (dVar 3) (dCons (dVar 4) (dCons (dVar 5) dNil))))) dNil)))))) (dRet (dC (.bl false))) dNext))))
  (dRet (dC (.bl true)))))
/-! ### what the readings answer -/
theorem lt_top {n m : Nat} (h : m ≤ 100000) (hn : n ≤ m) : n < topN := by unfold topN; omega
theorem dst4 {k a b d : D} : dstart ["kind", "one", "two", "three"] [k, a, b, d] = [some k, some a, some b, some d] := rfl
theorem pure_raised {c : Nat → Addr} {n : Nat} (inj : Inj c n) : ∀ ds M Q E, sp_raised c ds M Q E → b_raised c (fun C fs _ M' => E C fs M') { nx := fun _ M' => Q .non M', rt := Q } (dstart ["kind", "one", "two", "three"] ds) M := by
  rintro ds M Q E ⟨k, a, b, d, rfl, hk, h1, h2⟩
  rw [dst4]
  unfold b_raised
  match k, hk with
  | 0, _ => exact ⟨rfl, h1 (by decide)⟩
  | 1, _ => exact ⟨rfl, h1 (by decide)⟩
  | 2, _ => exact ⟨rfl, h1 (by decide)⟩
  | 3, _ => exact ⟨rfl, h1 (by decide)⟩
  | 4, _ => exact ⟨rfl, h1 (by decide)⟩
  | 5, _ => exact ⟨rfl, h1 (by decide)⟩
  | 6, _ => exact ⟨rfl, h1 (by decide)⟩
  | 7, _ => exact ⟨rfl, h1 (by decide)⟩
  | 8, _ => exact ⟨rfl, h1 (by decide)⟩
  | 9, _ => exact h2 (by decide)
  | 10, _ => exact h2 (by decide)
  | 11, _ => exact h2 (by decide)
  | 12, _ => exact h2 (by decide)
  | 13, _ => exact h2 (by decide)
  | 14, _ => exact h2 (by decide)
  | 15, _ => exact h2 (by decide)
  | 16, _ => exact h2 (by decide)
  | _ + 17, hk => exact absurd hk (by omega)
theorem pure_raised_too {c : Nat → Addr} {n : Nat} (inj : Inj c n) : ∀ ds M Q E, sp_raised_too c ds M Q E → b_raised_too c (fun C fs _ M' => E C fs M') { nx := fun _ M' => Q .non M', rt := Q } (dstart ["kind", "one", "two", "three"] ds) M := by
  rintro ds M Q E ⟨k, a, b, d, rfl, hk, h9, h1⟩
  rw [dst4]
  unfold b_raised_too
  match k, hk with
  | 0, _ => exact absurd h9 (by decide)
  | 1, _ => exact absurd h9 (by decide)
  | 2, _ => exact absurd h9 (by decide)
  | 3, _ => exact absurd h9 (by decide)
  | 4, _ => exact absurd h9 (by decide)
  | 5, _ => exact absurd h9 (by decide)
  | 6, _ => exact absurd h9 (by decide)
  | 7, _ => exact absurd h9 (by decide)
  | 8, _ => exact absurd h9 (by decide)
  | 9, _ => exact ⟨rfl, h1⟩
  | 10, _ => exact ⟨rfl, h1⟩
  | 11, _ => exact ⟨rfl, h1⟩
  | 12, _ => exact ⟨rfl, h1⟩
  | 13, _ => exact ⟨rfl, h1⟩
  | 14, _ => exact ⟨rfl, h1⟩
  | 15, _ => exact h1
  | 16, _ => exact h1
  | _ + 17, hk => exact absurd hk (by omega)
theorem isE_at {c : Nat → Addr} {n i j : Nat} {q : Addr} {ρ : Ds} {M : Mm} {Q : Bool → Mm → Prop} (inj : Inj c n) (hi : i < n) (hj : j < n) (h0 : i ≠ 0) (hs : slot ρ 0 = some (.ref q)) (h : Q (decide (j = i) || decide (j = 0)) M) :
    dTest (dCall (cIsE q (rErr (allC c n) (c i) (upsC c (c i)))) (dCons (dVar 0) (dCons (dC (.ref (c j))) dNil))) ρ M Q := by
  unfold dTest dCall dCons dVar dC dNil
  simp only [hs]
  refine ⟨rfl, ?_⟩
  rw [rErr_at inj hi hj h0]
  exact h
theorem is_yes {c : Nat → Addr} {n i : Nat} {q p : Addr} {M : Mm} {D : DEnds} {ad : DA} {u : DS} (inj : Inj c n) (hi : i < n) (h0 : i ≠ 0)
    (h : ad [some (.ref q), some (.ref p)] (M.set p (.lst [])) fun ds M2 => match ds, M2 p with | [x], some (.lst xs) => xs.length < 16777216 ∧ u D [some (.ref q), some (.ref p)] (M2.set p (.lst (xs ++ [x]))) | _, _ => False) :
    dSeq (dIf (dTest (dCall (cIsE q (rErr (allC c n) (c i) (upsC c (c i)))) (dCons (dVar 0) (dCons (dC (.ref (c i))) dNil)))) (dDrop (dApp (dVar 1) ad)) dNext) u D [some (.ref q), some (.ref p)] (M.set p (.lst [])) := by
  unfold dSeq dIf
  refine isE_at inj hi hi h0 rfl ?_
  rw [decide_eq_true rfl]
  exact ⟨⟨_, Mm.set_same⟩, h⟩
theorem is_no {c : Nat → Addr} {n i j : Nat} {q : Addr} {ρ : Ds} {M : Mm} {D : DEnds} {t u : DS} (inj : Inj c n) (hi : i < n) (hj : j < n) (h0 : i ≠ 0) (h1 : j ≠ i) (h2 : j ≠ 0) (hs : slot ρ 0 = some (.ref q)) (h : u D ρ M) :
    dSeq (dIf (dTest (dCall (cIsE q (rErr (allC c n) (c i) (upsC c (c i)))) (dCons (dVar 0) (dCons (dC (.ref (c j))) dNil)))) t dNext) u D ρ M := by
  unfold dSeq dIf
  refine isE_at inj hi hj h0 hs ?_
  rw [decide_eq_false h1, decide_eq_false h2]
  exact h
theorem fld_at {q : Addr} {fl : List (Str × D)} {n : Str} {ρ : Ds} {M : Mm} {Q : DK} {x : D} (hs : slot ρ 0 = some (.ref q)) (h : fl.lookup n = some x) (k : Q x M) : dFld q fl n (dVar 0) ρ M Q := by
  unfold dFld dVar
  simp only [hs, h]
  exact ⟨trivial, k⟩
theorem repr_at {d : D} {M : Mm} {Q : DK} (ha : AnyF d) (h : Q (.str (sh d)) M) : cRepr [d] M Q := by
  obtain ⟨p, e, ok⟩ := ha
  unfold sh at h
  rw [e] at h
  exact ⟨p, 200, e, ok.mono (Nat.le_refl _) (by decide), by decide, h⟩
/-- found.append((..)) upon the empty list at p -/
theorem app_at {p : Addr} {x : D} {M : Mm} {R : Mm → Prop} (h : R (M.set p (.lst [x]))) : (match ([x] : List D), (M.set p (.lst [])) p with | [x], some (.lst xs) => xs.length < 16777216 ∧ R ((M.set p (.lst [])).set p (.lst (xs ++ [x]))) | _, _ => False) := by
  rw [Mm.set_same]
  show _ ∧ R ((M.set p (.lst [])).set p (.lst [x]))
  rw [Mm.set_set]
  exact ⟨by decide, h⟩
theorem var1 {x : Option D} {y : D} {r : Ds} {M : Mm} {Q : DK} : dVar 1 (x :: some y :: r) M Q = Q y M := rfl
theorem frz_at {p : Addr} {l : List D} {M : Mm} {Q : DK} (hp : M p = none) (h : Q (.lst l) M) : frz (.ref p) (M.set p (.lst l)) Q := by
  unfold frz
  simp only [Mm.set_same]
  rw [Mm.del_set hp]
  exact h
theorem sz {n : Nat} (h : n ≤ 1000) : n ≤ sizeLine := by rw [sizeLine_eq]; omega
theorem found_at {q : Addr} {M : Mm} {D : DEnds} {u : DS} (h : ∀ p, M p = none → u D [some (.ref q), some (.ref p)] (M.set p (.lst []))) : dSeq (dAsg (dLstM dNil) (dgName 1)) u D [some (.ref q), none] M :=
  ⟨sz (by decide), fun p hp => h p hp⟩
theorem kinds_end {q p C : Addr} {fl : List (Str × D)} {l : List D} {M : Mm} {Q : DK} {sp : ESp} (hp : M p = none) (h : sp q C fl [.ref q] M (fun y M2 => rAdd (.lst l) y M2 Q) fun _ _ _ => False) :
    dBin rAdd (dFrz (dVar 1)) (dCallE sp q C fl (fun _ _ _ _ => False) (dCons (dVar 0) dNil)) [some (.ref q), some (.ref p)] (M.set p (.lst l)) Q := by
  unfold dBin dFrz
  rw [var1]
  exact frz_at hp h
theorem log2_10_40 : ((10 : Int) ^ Int.toNat 40).natAbs.log2 < 140 := by decide +kernel
theorem okp_dic1 {n m : Nat} {x y : PyData} (hx : Okp n 4 x) (hy : Okp m 4 y) : Okp (n + m + 6) 6 (.dict [(x, y)]) := by
  refine ⟨by rw [PyData.showable, PyData.showableKv, PyData.showableKv, hx.sh, hy.sh]; rfl, ?_, ?_⟩
  · rw [PyData.shown, PyData.shownKv, PyData.shownKv]
    have f : Fine (n + 2 + m) (x.shown ++ ": " ++ y.shown) := fine_append (fine_append hx.fi (fine_ofString ": ")) hy.fi
    exact (fine_dict (l := [x.shown ++ ": " ++ y.shown]) (fun z hz => by rw [List.mem_singleton.mp hz]; exact f)).mono (by simp; omega)
  · have := hx.dp
    have := hy.dp
    simp [PyData.depth, PyData.depthKv]
    omega
theorem fine_small (z : String) (h : z.length ≤ 40) : Fine 40 (Str.ofString z) := (fine_ofString z).mono h
theorem any_int {i : Int} (h : i.natAbs.log2 < 140) : AnyF (.int i) := ⟨_, rfl, (okp_int h (by decide)).mono (by decide) (by decide)⟩
theorem any_str {z : String} (h : z.length ≤ 10) : AnyF (.str (Str.ofString z)) := ⟨_, rfl, (okp_str ((fine_ofString z).mono h)).mono (by decide) (by decide)⟩
theorem small_int {i : Int} (h0 : 0 ≤ i) (h : i < 1000000) : i.natAbs.log2 < 20 := log2_lt (k := 20) h0 (by omega)
theorem any_way0 {r : Int} (h0 : 0 ≤ r) (h : r < 1000000) : AnyF (.lst [.int r, .lst []]) :=
  ⟨.list [.int r, .list []], rfl, (okp_list (okps_cons ((okp_int (small_int h0 h) (by decide)).mono (m := 50) (k := 4) (by decide) (by decide)) (okps_cons ((okp_list (okps_nil (n := 10) (k := 3))).mono (by decide) (by decide)) okps_nil))).mono (by simp) (by decide)⟩
theorem any_way1 {r : Int} (h0 : 0 ≤ r) (h : r < 1000000) : AnyF (.tup [.str "a", .tup [.int r]]) :=
  ⟨.tuple [.str "a", .tuple [.int r]], rfl, (okp_tuple (okps_cons ((okp_str (n := 1) (fine_ofString "a")).mono (m := 50) (k := 4) (by decide) (by decide))
    (okps_cons ((okp_tuple (okps_cons ((okp_int (small_int h0 h) (by decide)).mono (m := 21) (k := 3) (by decide) (by decide)) okps_nil)).mono (by simp) (by decide)) okps_nil))).mono (by simp) (by decide)⟩
theorem any_dic : AnyF (.dic [(Sum.inr "k", .int 1)]) :=
  ⟨.dict [(.str "k", .int 1)], rfl, (okp_dic1 (n := 12) (m := 20) ((okp_str (n := 1) (fine_ofString "k")).mono (by decide) (by decide)) ((okp_int (k := 2) (by decide) (by decide)).mono (by decide) (by decide))).mono (by decide) (by decide)⟩
theorem rEq_int {i j : Int} {M : Mm} {Q : DK} : rEq' (.int i) (.int j) M Q = Q (.bl (decide (i = j))) M := rfl
/-- way: the reading of draw, then what follows -/
theorem draw_at {p : Addr} {many : Int} {P : List (Key × D)} {n : Nat} {M : Mm} {Q : DK} {E : DX} (hM : M p = some (.dic P)) (hp : PenOk n P) (hn : n < topN) (h0 : 0 < many) (h1 : many < 4611686018427387904) (k : ∀ r P', 0 ≤ r → r < many → PenOk (n + 1) P' → Q (.int r) (M.set p (.dic P'))) : spDraw [.ref p, .int many] M Q E :=
  ⟨p, many, P, n, rfl, h0, h1, hM, hp, hn, k⟩
theorem pure_any_field {c : Nat → Addr} {n : Nat} (inj : Inj c n) : ∀ ds M Q E, sp_any_field c ds M Q E → b_any_field c (fun C fs _ M' => E C fs M') { nx := fun _ M' => Q .non M', rt := Q } (dstart ["pen", "way"] ds) M := by
  rintro ds M Q E ⟨p, P, n, rfl, hM, hp, hn, k⟩
  have e0 : dstart ["pen", "way"] [.ref p] = [some (.ref p), none] := rfl
  rw [e0]
  unfold b_any_field
  simp only [dSeq, dAsg, dC, dgName, dVar, slot, List.set_cons_zero, List.set_cons_succ, dIf, dTest, dBin, dCallF, dCons, dNil, dNext, dRet, dLst, dTup, rI2, rEq_int, dUn, rNeg]
  refine draw_at hM hp (by omega) (by decide) (by decide) fun way P1 w0 w1 hp1 => ?_
  simp only [rEq_int]
  by_cases h0 : decide (way = 0) = true
  · rw [if_pos h0]
    refine draw_at Mm.set_same hp1 (by omega) (by decide) (by decide) fun r P2 r0 r1 hp2 => ?_
    rw [Mm.set_set]
    exact ⟨sz (by simp), sz (by simp), k _ _ (any_way0 r0 (by omega)) hp2⟩
  · rw [if_neg h0]
    by_cases h1 : decide (way = 1) = true
    · rw [if_pos h1]
      refine ⟨⟨by decide, by decide, by decide⟩, ?_⟩
      refine draw_at Mm.set_same hp1 (by omega) (by decide) (by decide) fun r P2 r0 r1 hp2 => ?_
      rw [Mm.set_set]
      exact ⟨sz (by simp), sz (by simp), k _ _ (any_way1 r0 (Int.lt_of_lt_of_le r1 (by decide))) hp2⟩
    · rw [if_neg h1]
      refine ⟨⟨by decide, by decide, by decide⟩, ?_⟩
      unfold dFrz dDicM
      intro a ha
      refine ⟨Mm.set_same, ?_⟩
      unfold frz
      simp only [Mm.set_same, Mm.set_set]
      have e1 : ((M.set p (.dic P1)).set a (.dic [(Sum.inr "k", .int 1)])).del a = M.set p (.dic P1) := Mm.del_set ha
      rw [e1]
      refine ⟨sz (by simp), p, _, _, P1, n + 1, rfl, rfl, by simp, by simp, Mm.set_same, hp1, by omega, fun x P2 hx hp2 => ?_⟩
      rw [Mm.set_set]
      refine k _ _ ?_ hp2
      simp only [List.mem_cons, List.not_mem_nil, or_false] at hx
      rcases hx with rfl | rfl | rfl | rfl | rfl | rfl | rfl | rfl | rfl
      · exact ⟨_, rfl, okp_none.mono (by decide) (by decide)⟩
      · exact ⟨_, rfl, (okp_bool _).mono (by decide) (by decide)⟩
      · exact ⟨_, rfl, (okp_bool _).mono (by decide) (by decide)⟩
      · exact any_int (by decide)
      · exact any_int (by decide)
      · exact any_str (by decide)
      · exact any_str (by decide)
      · exact any_int log2_10_40
      · exact any_dic
theorem anys {l : List D} (h : ∀ x ∈ l, ∃ p, D.px x = some p ∧ Okp 3000 8 p) : ∃ ps, D.pxs l = some ps ∧ Okps 3000 8 ps ∧ ps.length = l.length := by
  induction l with
  | nil => exact ⟨[], rfl, okps_nil, rfl⟩
  | cons x r ih =>
    obtain ⟨p, e1, o1⟩ := h x (by simp)
    obtain ⟨ps, e2, o2, e3⟩ := ih fun y hy => h y (List.mem_cons_of_mem _ hy)
    refine ⟨p :: ps, ?_, okps_cons o1 o2, by simp [e3]⟩
    rw [D.pxs, e1, e2]
theorem any_tup {l : List D} (h : ∀ x ∈ l, ∃ p, D.px x = some p ∧ Okp 3000 8 p) (hl : l.length ≤ 10) : ∃ p, D.px (.tup l) = some p ∧ Okp 100000 10 p := by
  obtain ⟨ps, e1, o1, e2⟩ := anys h
  refine ⟨.tuple ps, by rw [D.px, e1]; rfl, (okp_tuple o1).mono ?_ (by decide)⟩
  rw [e2]
  omega
theorem px_any {x : D} (h : AnyF x) : ∃ p, D.px x = some p ∧ Okp 3000 8 p := let ⟨p, e, o⟩ := h; ⟨p, e, o.mono (by decide) (by decide)⟩
theorem px_sh {x : D} (h : AnyF x) : ∃ p, D.px (.str (sh x)) = some p ∧ Okp 3000 8 p := by
  obtain ⟨p, e, o⟩ := h
  refine ⟨.str (sh x), rfl, ?_⟩
  have : sh x = p.shown := by unfold sh; rw [e]
  rw [this]
  exact (okp_str o.fi).mono (by decide) (by decide)
theorem px_str {z : String} (h : z.length ≤ 20) : ∃ p, D.px (.str (Str.ofString z)) = some p ∧ Okp 3000 8 p := ⟨.str (Str.ofString z), rfl, (okp_str ((fine_ofString z).mono h)).mono (by decide) (by decide)⟩
theorem all1 {P : D → Prop} {a : D} (h : P a) : ∀ x ∈ [a], P x := fun x hx => by rw [List.mem_singleton.mp hx]; exact h
theorem allc {P : D → Prop} {a : D} {l : List D} (h : P a) (g : ∀ x ∈ l, P x) : ∀ x ∈ a :: l, P x := fun x hx => (List.mem_cons.mp hx).elim (fun z => by rw [z]; exact h) (g x)
theorem due_ok {k : Nat} {a b d : D} (hk : k < 17) (ha : AnyF a) (hb : AnyF b) (hd : AnyF d) : ∃ p, D.px (due k a b d) = some p ∧ Okp 100000 10 p := by
  match k, hk with
  | 0, _ => exact any_tup (allc (px_str (by decide)) (allc (px_any ha) (all1 (px_sh hb)))) (by simp)
  | 1, _ => exact any_tup (allc (px_str (by decide)) (allc (px_any ha) (all1 (px_sh hb)))) (by simp)
  | 2, _ => exact any_tup (allc (px_str (by decide)) (all1 (px_any ha))) (by simp)
  | 3, _ => exact any_tup (allc (px_str (by decide)) (all1 (px_any ha))) (by simp)
  | 4, _ => exact any_tup (allc (px_str (by decide)) (all1 (px_any ha))) (by simp)
  | 5, _ => exact any_tup (allc (px_str (by decide)) (all1 (px_any ha))) (by simp)
  | 6, _ => exact any_tup (allc (px_str (by decide)) (all1 (px_sh ha))) (by simp)
  | 7, _ => exact any_tup (allc (px_str (by decide)) (allc (px_any ha) (all1 (px_any hb)))) (by simp)
  | 8, _ => exact any_tup (allc (px_str (by decide)) (allc (px_any ha) (all1 (px_sh hb)))) (by simp)
  | 9, _ => exact any_tup (allc (px_str (by decide)) (all1 (px_sh ha))) (by simp)
  | 10, _ => exact any_tup (allc (px_str (by decide)) (all1 (px_sh ha))) (by simp)
  | 11, _ => exact any_tup (allc (px_str (by decide)) (all1 (px_any ha))) (by simp)
  | 12, _ => exact any_tup (allc (px_str (by decide)) (all1 (px_any ha))) (by simp)
  | 13, _ => exact any_tup (allc (px_str (by decide)) (allc (px_any ha) (allc (px_any hb) (all1 (px_any hd))))) (by simp)
  | 14, _ => exact any_tup (allc (px_str (by decide)) (allc (px_any ha) (all1 (px_any hb)))) (by simp)
  | 15, _ => exact any_tup (all1 (px_str (by decide))) (by simp)
  | 16, _ => exact any_tup (all1 (px_str (by decide))) (by simp)
  | _ + 17, hk => exact absurd hk (by omega)
theorem pure_told {c : Nat → Addr} (inj : Inj c 18) : ∀ ds M Q E, sp_told c ds M Q E → b_told c (fun C fs _ M' => E C fs M') { nx := fun _ M' => Q .non M', rt := Q } (dstart ["kind", "one", "two", "three", "found", "e"] ds) M := by
  rintro ds M Q E ⟨k, a, b, d, rfl, hk, ha, hb, h⟩
  have e0 : dstart ["kind", "one", "two", "three", "found", "e"] [.int k, a, b, d] = [some (.int k), some a, some b, some d, none, none] := rfl
  rw [e0]
  unfold b_told
  have su : ∀ q, ∀ (nx : Ds → Mm → Prop), (∀ M', M' = M → nx [some (.int k), some a, some b, some d, some (.lst [due k a b d]), some (.ref q)] M') →
      sp_kinds c q (c (k + 1)) (flK k a b d) [.ref q] M (fun x M1 => nx [some (.int k), some a, some b, some d, some x, some (.ref q)] M1) fun _ _ _ => False := fun q nx hn => ⟨rfl, k, a, b, d, hk, rfl, rfl, ha, hb, hn _ rfl⟩
  simp only [dSeq, dAsg, dC, dgName, dVar, slot, List.set_cons_zero, List.set_cons_succ, dTryAs, dIf, dTest, dCall, dCallF, dCallE, dCons, dNil, dNext, dRet, dDrop]
  refine ⟨k, a, b, d, rfl, hk, fun h8 => .inl ⟨decide_eq_true (mem_allC (by omega)), fun q => ⟨rfl, ?_⟩⟩, fun h9 => ⟨k, a, b, d, rfl, hk, h9, .inl ⟨decide_eq_true (mem_allC (by omega)), fun q => ⟨rfl, ?_⟩⟩⟩⟩
  · exact ⟨rfl, k, a, b, d, hk, rfl, rfl, ha, hb, h⟩
  · exact ⟨rfl, k, a, b, d, hk, rfl, rfl, ha, hb, h⟩
theorem in_yes {k : Int} {l : List D} {vs : List V} {M : Mm} {A B : Mm → Prop} (hv : flats l = some vs) (ha : vs.all flatV = true) (hb : inV (.int k) vs = true) (h : A M) : rIn' false (.int k) (.tup l) M fun d M' => match d with | .bl b => if b = true then A M' else B M' | _ => False := by
  refine ⟨l, _, vs, rfl, rfl, hv, rfl, ha, ?_⟩
  rw [hb]
  exact h
theorem in_no {k : Int} {l : List D} {vs : List V} {M : Mm} {A B : Mm → Prop} (hv : flats l = some vs) (ha : vs.all flatV = true) (hb : inV (.int k) vs = false) (h : B M) : rIn' false (.int k) (.tup l) M fun d M' => match d with | .bl b => if b = true then A M' else B M' | _ => False := by
  refine ⟨l, _, vs, rfl, rfl, hv, rfl, ha, ?_⟩
  rw [hb]
  exact h
theorem eq_yes {k j : Int} {M : Mm} {A B : Mm → Prop} (e : k = j) (h : A M) : rEq' (.int k) (.int j) M fun d M' => match d with | .bl b => if b = true then A M' else B M' | _ => False := by
  rw [rEq_int, decide_eq_true e]
  exact h
theorem eq_no {k j : Int} {M : Mm} {A B : Mm → Prop} (e : ¬ k = j) (h : B M) : rEq' (.int k) (.int j) M fun d M' => match d with | .bl b => if b = true then A M' else B M' | _ => False := by
  rw [rEq_int, decide_eq_false e]
  exact h
theorem ix_at {l : List D} {k : Int} {x : D} {M : Mm} {Q : DK} (h : atI l k = some x) (g : Q x M) : Dq.rIx (.lst l) (.int k) M Q := by
  unfold Dq.rIx
  have e : dAt M (.lst l) k = some x := h
  simp only [e]
  exact g
theorem pure_due {c : Nat → Addr} (inj : Inj c 18) : ∀ ds M Q E, sp_due c ds M Q E → b_due c (fun C fs _ M' => E C fs M') { nx := fun _ M' => Q .non M', rt := Q } (dstart ["kind", "one", "two", "three", "words"] ds) M := by
  rintro ds M Q E ⟨k, a, b, d, rfl, hk, ha, hb, h⟩
  have e0 : dstart ["kind", "one", "two", "three", "words"] [.int k, a, b, d] = [some (.int k), some a, some b, some d, none] := rfl
  rw [e0]
  unfold b_due
  simp only [dSeq, dAsg, dC, dgName, dVar, slot, List.set_cons_zero, List.set_cons_succ, dIf, dTest, dBin, dCall, dCons, dNil, dNext, dRet, dLst, dTup, dIfE]
  refine ⟨sz (by simp), sz (by simp), sz (by simp), ?_⟩
  simp only [List.cons_append, List.nil_append]
  refine ⟨sz (by simp), ?_⟩
  match k, hk with
  | 0, _ =>
    refine in_yes rfl (by rfl) (by decide +kernel) ?_
    refine ix_at (by rfl) ?_
    refine repr_at hb ?_
    exact ⟨sz (by simp), h⟩
  | 1, _ =>
    refine in_yes rfl (by rfl) (by decide +kernel) ?_
    refine ix_at (by rfl) ?_
    refine repr_at hb ?_
    exact ⟨sz (by simp), h⟩
  | 2, _ =>
    refine in_no rfl (by rfl) (by decide +kernel) ?_
    refine ⟨sz (by simp), ?_⟩
    refine in_yes rfl (by rfl) (by decide +kernel) ?_
    refine ix_at (by rfl) ?_
    exact ⟨sz (by simp), h⟩
  | 3, _ =>
    refine in_no rfl (by rfl) (by decide +kernel) ?_
    refine ⟨sz (by simp), ?_⟩
    refine in_yes rfl (by rfl) (by decide +kernel) ?_
    refine ix_at (by rfl) ?_
    exact ⟨sz (by simp), h⟩
  | 4, _ =>
    refine in_no rfl (by rfl) (by decide +kernel) ?_
    refine ⟨sz (by simp), ?_⟩
    refine in_yes rfl (by rfl) (by decide +kernel) ?_
    refine ix_at (by rfl) ?_
    exact ⟨sz (by simp), h⟩
  | 5, _ =>
    refine in_no rfl (by rfl) (by decide +kernel) ?_
    refine ⟨sz (by simp), ?_⟩
    refine in_yes rfl (by rfl) (by decide +kernel) ?_
    refine ix_at (by rfl) ?_
    exact ⟨sz (by simp), h⟩
  | 6, _ =>
    refine in_no rfl (by rfl) (by decide +kernel) ?_
    refine ⟨sz (by simp), ?_⟩
    refine in_no rfl (by rfl) (by decide +kernel) ?_
    refine ⟨sz (by simp), ?_⟩
    refine in_yes rfl (by rfl) (by decide +kernel) ?_
    refine ix_at (by rfl) ?_
    refine repr_at ha ?_
    exact ⟨sz (by simp), h⟩
  | 7, _ =>
    refine in_no rfl (by rfl) (by decide +kernel) ?_
    refine ⟨sz (by simp), ?_⟩
    refine in_no rfl (by rfl) (by decide +kernel) ?_
    refine ⟨sz (by simp), ?_⟩
    refine in_no rfl (by rfl) (by decide +kernel) ?_
    refine ⟨sz (by simp), ?_⟩
    refine in_yes rfl (by rfl) (by decide +kernel) ?_
    refine ix_at (by rfl) ?_
    exact ⟨sz (by simp), h⟩
  | 8, _ =>
    refine in_yes rfl (by rfl) (by decide +kernel) ?_
    refine ix_at (by rfl) ?_
    refine repr_at hb ?_
    exact ⟨sz (by simp), h⟩
  | 9, _ =>
    refine in_no rfl (by rfl) (by decide +kernel) ?_
    refine ⟨sz (by simp), ?_⟩
    refine in_no rfl (by rfl) (by decide +kernel) ?_
    refine ⟨sz (by simp), ?_⟩
    refine in_yes rfl (by rfl) (by decide +kernel) ?_
    refine ix_at (by rfl) ?_
    refine repr_at ha ?_
    exact ⟨sz (by simp), h⟩
  | 10, _ =>
    refine in_no rfl (by rfl) (by decide +kernel) ?_
    refine ⟨sz (by simp), ?_⟩
    refine in_no rfl (by rfl) (by decide +kernel) ?_
    refine ⟨sz (by simp), ?_⟩
    refine in_yes rfl (by rfl) (by decide +kernel) ?_
    refine ix_at (by rfl) ?_
    refine repr_at ha ?_
    exact ⟨sz (by simp), h⟩
  | 11, _ =>
    refine in_no rfl (by rfl) (by decide +kernel) ?_
    refine ⟨sz (by simp), ?_⟩
    refine in_yes rfl (by rfl) (by decide +kernel) ?_
    refine ix_at (by rfl) ?_
    exact ⟨sz (by simp), h⟩
  | 12, _ =>
    refine in_no rfl (by rfl) (by decide +kernel) ?_
    refine ⟨sz (by simp), ?_⟩
    refine in_yes rfl (by rfl) (by decide +kernel) ?_
    refine ix_at (by rfl) ?_
    exact ⟨sz (by simp), h⟩
  | 13, _ =>
    refine in_no rfl (by rfl) (by decide +kernel) ?_
    refine ⟨sz (by simp), ?_⟩
    refine in_no rfl (by rfl) (by decide +kernel) ?_
    refine ⟨sz (by simp), ?_⟩
    refine in_no rfl (by rfl) (by decide +kernel) ?_
    refine ⟨sz (by simp), ?_⟩
    refine in_no rfl (by rfl) (by decide +kernel) ?_
    refine eq_yes (by decide) ?_
    refine ix_at (by rfl) ?_
    exact ⟨sz (by simp), h⟩
  | 14, _ =>
    refine in_no rfl (by rfl) (by decide +kernel) ?_
    refine ⟨sz (by simp), ?_⟩
    refine in_no rfl (by rfl) (by decide +kernel) ?_
    refine ⟨sz (by simp), ?_⟩
    refine in_no rfl (by rfl) (by decide +kernel) ?_
    refine ⟨sz (by simp), ?_⟩
    refine in_yes rfl (by rfl) (by decide +kernel) ?_
    refine ix_at (by rfl) ?_
    exact ⟨sz (by simp), h⟩
  | 15, _ =>
    refine in_no rfl (by rfl) (by decide +kernel) ?_
    refine ⟨sz (by simp), ?_⟩
    refine in_no rfl (by rfl) (by decide +kernel) ?_
    refine ⟨sz (by simp), ?_⟩
    refine in_no rfl (by rfl) (by decide +kernel) ?_
    refine ⟨sz (by simp), ?_⟩
    refine in_no rfl (by rfl) (by decide +kernel) ?_
    refine eq_no (by decide) ?_
    refine ix_at (by rfl) ?_
    exact ⟨sz (by simp), h⟩
  | 16, _ =>
    refine in_no rfl (by rfl) (by decide +kernel) ?_
    refine ⟨sz (by simp), ?_⟩
    refine in_no rfl (by rfl) (by decide +kernel) ?_
    refine ⟨sz (by simp), ?_⟩
    refine in_no rfl (by rfl) (by decide +kernel) ?_
    refine ⟨sz (by simp), ?_⟩
    refine in_no rfl (by rfl) (by decide +kernel) ?_
    refine eq_no (by decide) ?_
    refine ix_at (by rfl) ?_
    exact ⟨sz (by simp), h⟩
  | _ + 17, hk => exact absurd hk (by omega)
theorem rNe_int {i j : Int} {M : Mm} {Q : DK} : rNe' (.int i) (.int j) M Q = Q (.bl (!decide (i = j))) M := rfl
theorem rNe_str {s t : Str} {M : Mm} {Q : DK} : rNe' (.str s) (.str t) M Q = Q (.bl (!decide (s = t))) M := rfl
theorem repr2_at {x : D} {M : Mm} {Q : DK} {p : PyData} {n : Nat} (e : D.px x = some p) (ok : Okp n 10 p) (hn : n ≤ 16777216) (h : Q (.str p.shown) M) : cRepr [x] M Q := ⟨p, n, e, ok.mono (Nat.le_refl _) (by decide), hn, h⟩
theorem law_end {c : Nat → Addr} {Wd : DXS} {D' : DEnds} {k n : Nat} {a b d : D} {M : Mm} {s0 s1 : Option D} (hk : k < 17) (ha : AnyF a) (hb : AnyF b) (hd : AnyF d) (h : D'.nx [s0, s1, some (.int k), some a, some b, some d, some (.lst [due k a b d])] M) :
    dIf (dOr (dTest (dBin rIsN (dVar 6) (dC .non))) (dOr (dTest (dBin rNe' (dCall cLen (dCons (dVar 6) dNil)) (dC (.int 1)))) (dTest (dBin rNe' (dCall cRepr (dCons (dBin Dq.rIx (dVar 6) (dC (.int 0))) dNil)) (dCall cRepr (dCons (dCallF (sp_due c) Wd (dCons (dVar 2) (dCons (dVar 3) (dCons (dVar 4) (dCons (dVar 5) dNil))))) dNil)))))) (dRet (dC (.bl false))) dNext D'
      [s0, s1, some (.int k), some a, some b, some d, some (.lst [due k a b d])] M := by
  obtain ⟨p, e1, o1⟩ := due_ok hk ha hb hd
  simp only [dIf, dOr, dTest, dBin, dVar, slot, dC, dCall, dCons, dNil, dRet, dNext, dCallF, rIsN, isNon, cLen, rLen, rNe_int, Bool.false_eq_true, if_false, List.length_cons, List.length_nil]
  refine (if_neg (by decide)).mpr ?_
  refine ix_at (x := due k a b d) rfl ?_
  refine repr2_at e1 o1 (by decide) ?_
  refine ⟨k, a, b, d, rfl, hk, ha, hb, ?_⟩
  refine repr2_at e1 o1 (by decide) ?_
  rw [rNe_str, decide_eq_true rfl]
  exact h
theorem pure_law {c : Nat → Addr} (inj : Inj c 18) : ∀ ds M Q E, sp_law c ds M Q E → b_law c (fun C fs _ M' => E C fs M') { nx := fun _ M' => Q .non M', rt := Q } (dstart ["script", "pen", "kind", "one", "two", "three", "told"] ds) M := by
  rintro ds M Q E ⟨ns, rfl, hl, rfl, h⟩
  have e0 : dstart ["script", "pen", "kind", "one", "two", "three", "told"] [.scr ns] = [some (.scr ns), none, none, none, none, none, none] := rfl
  rw [e0]
  unfold b_law
  refine ⟨ns, rfl, hl, fun p P hp hP => ?_⟩
  refine ⟨by decide, ?_⟩
  refine for_inv (fun r ρ M' => (∀ x ∈ r, ∃ k : Nat, k < 17 ∧ x = .int k) ∧ ∃ (P : List (Key × D)) (n : Nat) (a2 a3 a4 a5 a6 : Option D), ρ = [some (.scr ns), some (.ref p), a2, a3, a4, a5, a6] ∧ M' = Mm.set (fun _ => none) p (.dic P) ∧ PenOk n P ∧ n + 6 * r.length ≤ 1000) ?_ ?_ ?_
  · rintro x r ρ M' D' ⟨hr, P, n, a2, a3, a4, a5, a6, rfl, rfl, hp1, hn⟩ hnx hct hbk hrt
    obtain ⟨k, hk, rfl⟩ := hr x (by simp)
    rw [List.length_cons] at hn
    refine ⟨p, P, n, rfl, Mm.set_same, hp1, by unfold topN; omega, fun a P1 ha hp2 => ?_⟩
    rw [Mm.set_set]
    refine ⟨p, P1, n + 2, rfl, Mm.set_same, hp2, by unfold topN; omega, fun b P2 hb hp3 => ?_⟩
    rw [Mm.set_set]
    refine ⟨p, P2, n + 2 + 2, rfl, Mm.set_same, hp3, by unfold topN; omega, fun d P3 hd hp4 => ?_⟩
    rw [Mm.set_set]
    refine ⟨rfl, ?_⟩
    refine ⟨k, a, b, d, rfl, hk, ha, hb, ?_⟩
    refine law_end (n := n) hk ha hb hd ?_
    exact hnx _ _ ⟨fun x hx => hr x (List.mem_cons_of_mem _ hx), P3, n + 2 + 2 + 2, _, _, _, _, _, rfl, rfl, hp4, by omega⟩
  · rintro ρ M' ⟨_, P, n, a2, a3, a4, a5, a6, rfl, rfl, hp1, hn⟩
    exact h _
  · refine ⟨fun x hx => ?_, P, 0, none, none, none, none, none, rfl, rfl, hP, by decide⟩
    unfold rng at hx
    obtain ⟨i, hi, rfl⟩ := List.mem_map.mp hx
    exact ⟨i, List.mem_range.mp hi, by simp⟩
theorem pure_more_kinds {c : Nat → Addr} (inj : Inj c 18) : ∀ q C fl ds M Q E, sp_more_kinds c q C fl ds M Q E → b_more_kinds c q C fl (fun C fs _ M' => E C fs M') { nx := fun _ M' => Q .non M', rt := Q } (dstart ["e", "found"] ds) M := by
  rintro q C fl ds M Q E ⟨rfl, k, a, b, d, hk, rfl, rfl, ha, hb, h⟩
  have e0 : dstart ["e", "found"] [.ref q] = [some (.ref q), none] := rfl
  rw [e0]
  unfold b_more_kinds
  refine found_at fun p hp => ?_
  match k, hk with
  | 0, _ =>
    refine is_no inj (i := 1) (j := 10) (by decide) (by decide) (by decide) (by decide) (by decide) (by rfl) ?_
    refine is_no inj (i := 1) (j := 11) (by decide) (by decide) (by decide) (by decide) (by decide) (by rfl) ?_
    refine is_no inj (i := 1) (j := 12) (by decide) (by decide) (by decide) (by decide) (by decide) (by rfl) ?_
    refine is_no inj (i := 1) (j := 13) (by decide) (by decide) (by decide) (by decide) (by decide) (by rfl) ?_
    refine is_no inj (i := 1) (j := 14) (by decide) (by decide) (by decide) (by decide) (by decide) (by rfl) ?_
    refine is_no inj (i := 1) (j := 15) (by decide) (by decide) (by decide) (by decide) (by decide) (by rfl) ?_
    refine is_no inj (i := 1) (j := 16) (by decide) (by decide) (by decide) (by decide) (by decide) (by rfl) ?_
    refine is_no inj (i := 1) (j := 17) (by decide) (by decide) (by decide) (by decide) (by decide) (by rfl) ?_
    exact frz_at hp h
  | 1, _ =>
    refine is_no inj (i := 2) (j := 10) (by decide) (by decide) (by decide) (by decide) (by decide) (by rfl) ?_
    refine is_no inj (i := 2) (j := 11) (by decide) (by decide) (by decide) (by decide) (by decide) (by rfl) ?_
    refine is_no inj (i := 2) (j := 12) (by decide) (by decide) (by decide) (by decide) (by decide) (by rfl) ?_
    refine is_no inj (i := 2) (j := 13) (by decide) (by decide) (by decide) (by decide) (by decide) (by rfl) ?_
    refine is_no inj (i := 2) (j := 14) (by decide) (by decide) (by decide) (by decide) (by decide) (by rfl) ?_
    refine is_no inj (i := 2) (j := 15) (by decide) (by decide) (by decide) (by decide) (by decide) (by rfl) ?_
    refine is_no inj (i := 2) (j := 16) (by decide) (by decide) (by decide) (by decide) (by decide) (by rfl) ?_
    refine is_no inj (i := 2) (j := 17) (by decide) (by decide) (by decide) (by decide) (by decide) (by rfl) ?_
    exact frz_at hp h
  | 2, _ =>
    refine is_no inj (i := 3) (j := 10) (by decide) (by decide) (by decide) (by decide) (by decide) (by rfl) ?_
    refine is_no inj (i := 3) (j := 11) (by decide) (by decide) (by decide) (by decide) (by decide) (by rfl) ?_
    refine is_no inj (i := 3) (j := 12) (by decide) (by decide) (by decide) (by decide) (by decide) (by rfl) ?_
    refine is_no inj (i := 3) (j := 13) (by decide) (by decide) (by decide) (by decide) (by decide) (by rfl) ?_
    refine is_no inj (i := 3) (j := 14) (by decide) (by decide) (by decide) (by decide) (by decide) (by rfl) ?_
    refine is_no inj (i := 3) (j := 15) (by decide) (by decide) (by decide) (by decide) (by decide) (by rfl) ?_
    refine is_no inj (i := 3) (j := 16) (by decide) (by decide) (by decide) (by decide) (by decide) (by rfl) ?_
    refine is_no inj (i := 3) (j := 17) (by decide) (by decide) (by decide) (by decide) (by decide) (by rfl) ?_
    exact frz_at hp h
  | 3, _ =>
    refine is_no inj (i := 4) (j := 10) (by decide) (by decide) (by decide) (by decide) (by decide) (by rfl) ?_
    refine is_no inj (i := 4) (j := 11) (by decide) (by decide) (by decide) (by decide) (by decide) (by rfl) ?_
    refine is_no inj (i := 4) (j := 12) (by decide) (by decide) (by decide) (by decide) (by decide) (by rfl) ?_
    refine is_no inj (i := 4) (j := 13) (by decide) (by decide) (by decide) (by decide) (by decide) (by rfl) ?_
    refine is_no inj (i := 4) (j := 14) (by decide) (by decide) (by decide) (by decide) (by decide) (by rfl) ?_
    refine is_no inj (i := 4) (j := 15) (by decide) (by decide) (by decide) (by decide) (by decide) (by rfl) ?_
    refine is_no inj (i := 4) (j := 16) (by decide) (by decide) (by decide) (by decide) (by decide) (by rfl) ?_
    refine is_no inj (i := 4) (j := 17) (by decide) (by decide) (by decide) (by decide) (by decide) (by rfl) ?_
    exact frz_at hp h
  | 4, _ =>
    refine is_no inj (i := 5) (j := 10) (by decide) (by decide) (by decide) (by decide) (by decide) (by rfl) ?_
    refine is_no inj (i := 5) (j := 11) (by decide) (by decide) (by decide) (by decide) (by decide) (by rfl) ?_
    refine is_no inj (i := 5) (j := 12) (by decide) (by decide) (by decide) (by decide) (by decide) (by rfl) ?_
    refine is_no inj (i := 5) (j := 13) (by decide) (by decide) (by decide) (by decide) (by decide) (by rfl) ?_
    refine is_no inj (i := 5) (j := 14) (by decide) (by decide) (by decide) (by decide) (by decide) (by rfl) ?_
    refine is_no inj (i := 5) (j := 15) (by decide) (by decide) (by decide) (by decide) (by decide) (by rfl) ?_
    refine is_no inj (i := 5) (j := 16) (by decide) (by decide) (by decide) (by decide) (by decide) (by rfl) ?_
    refine is_no inj (i := 5) (j := 17) (by decide) (by decide) (by decide) (by decide) (by decide) (by rfl) ?_
    exact frz_at hp h
  | 5, _ =>
    refine is_no inj (i := 6) (j := 10) (by decide) (by decide) (by decide) (by decide) (by decide) (by rfl) ?_
    refine is_no inj (i := 6) (j := 11) (by decide) (by decide) (by decide) (by decide) (by decide) (by rfl) ?_
    refine is_no inj (i := 6) (j := 12) (by decide) (by decide) (by decide) (by decide) (by decide) (by rfl) ?_
    refine is_no inj (i := 6) (j := 13) (by decide) (by decide) (by decide) (by decide) (by decide) (by rfl) ?_
    refine is_no inj (i := 6) (j := 14) (by decide) (by decide) (by decide) (by decide) (by decide) (by rfl) ?_
    refine is_no inj (i := 6) (j := 15) (by decide) (by decide) (by decide) (by decide) (by decide) (by rfl) ?_
    refine is_no inj (i := 6) (j := 16) (by decide) (by decide) (by decide) (by decide) (by decide) (by rfl) ?_
    refine is_no inj (i := 6) (j := 17) (by decide) (by decide) (by decide) (by decide) (by decide) (by rfl) ?_
    exact frz_at hp h
  | 6, _ =>
    refine is_no inj (i := 7) (j := 10) (by decide) (by decide) (by decide) (by decide) (by decide) (by rfl) ?_
    refine is_no inj (i := 7) (j := 11) (by decide) (by decide) (by decide) (by decide) (by decide) (by rfl) ?_
    refine is_no inj (i := 7) (j := 12) (by decide) (by decide) (by decide) (by decide) (by decide) (by rfl) ?_
    refine is_no inj (i := 7) (j := 13) (by decide) (by decide) (by decide) (by decide) (by decide) (by rfl) ?_
    refine is_no inj (i := 7) (j := 14) (by decide) (by decide) (by decide) (by decide) (by decide) (by rfl) ?_
    refine is_no inj (i := 7) (j := 15) (by decide) (by decide) (by decide) (by decide) (by decide) (by rfl) ?_
    refine is_no inj (i := 7) (j := 16) (by decide) (by decide) (by decide) (by decide) (by decide) (by rfl) ?_
    refine is_no inj (i := 7) (j := 17) (by decide) (by decide) (by decide) (by decide) (by decide) (by rfl) ?_
    exact frz_at hp h
  | 7, _ =>
    refine is_no inj (i := 8) (j := 10) (by decide) (by decide) (by decide) (by decide) (by decide) (by rfl) ?_
    refine is_no inj (i := 8) (j := 11) (by decide) (by decide) (by decide) (by decide) (by decide) (by rfl) ?_
    refine is_no inj (i := 8) (j := 12) (by decide) (by decide) (by decide) (by decide) (by decide) (by rfl) ?_
    refine is_no inj (i := 8) (j := 13) (by decide) (by decide) (by decide) (by decide) (by decide) (by rfl) ?_
    refine is_no inj (i := 8) (j := 14) (by decide) (by decide) (by decide) (by decide) (by decide) (by rfl) ?_
    refine is_no inj (i := 8) (j := 15) (by decide) (by decide) (by decide) (by decide) (by decide) (by rfl) ?_
    refine is_no inj (i := 8) (j := 16) (by decide) (by decide) (by decide) (by decide) (by decide) (by rfl) ?_
    refine is_no inj (i := 8) (j := 17) (by decide) (by decide) (by decide) (by decide) (by decide) (by rfl) ?_
    exact frz_at hp h
  | 8, _ =>
    refine is_no inj (i := 9) (j := 10) (by decide) (by decide) (by decide) (by decide) (by decide) (by rfl) ?_
    refine is_no inj (i := 9) (j := 11) (by decide) (by decide) (by decide) (by decide) (by decide) (by rfl) ?_
    refine is_no inj (i := 9) (j := 12) (by decide) (by decide) (by decide) (by decide) (by decide) (by rfl) ?_
    refine is_no inj (i := 9) (j := 13) (by decide) (by decide) (by decide) (by decide) (by decide) (by rfl) ?_
    refine is_no inj (i := 9) (j := 14) (by decide) (by decide) (by decide) (by decide) (by decide) (by rfl) ?_
    refine is_no inj (i := 9) (j := 15) (by decide) (by decide) (by decide) (by decide) (by decide) (by rfl) ?_
    refine is_no inj (i := 9) (j := 16) (by decide) (by decide) (by decide) (by decide) (by decide) (by rfl) ?_
    refine is_no inj (i := 9) (j := 17) (by decide) (by decide) (by decide) (by decide) (by decide) (by rfl) ?_
    exact frz_at hp h
  | 9, _ =>
    refine is_yes inj (i := 10) (by decide) (by decide) ?_
    simp only [dCons, dTup, dNil, dCall, dC]
    refine fld_at rfl rfl ?_
    refine repr_at ha ?_
    refine ⟨sz (by simp), ?_⟩
    refine app_at ?_
    refine is_no inj (i := 10) (j := 11) (by decide) (by decide) (by decide) (by decide) (by decide) (by rfl) ?_
    refine is_no inj (i := 10) (j := 12) (by decide) (by decide) (by decide) (by decide) (by decide) (by rfl) ?_
    refine is_no inj (i := 10) (j := 13) (by decide) (by decide) (by decide) (by decide) (by decide) (by rfl) ?_
    refine is_no inj (i := 10) (j := 14) (by decide) (by decide) (by decide) (by decide) (by decide) (by rfl) ?_
    refine is_no inj (i := 10) (j := 15) (by decide) (by decide) (by decide) (by decide) (by decide) (by rfl) ?_
    refine is_no inj (i := 10) (j := 16) (by decide) (by decide) (by decide) (by decide) (by decide) (by rfl) ?_
    refine is_no inj (i := 10) (j := 17) (by decide) (by decide) (by decide) (by decide) (by decide) (by rfl) ?_
    exact frz_at hp h
  | 10, _ =>
    refine is_no inj (i := 11) (j := 10) (by decide) (by decide) (by decide) (by decide) (by decide) (by rfl) ?_
    refine is_yes inj (i := 11) (by decide) (by decide) ?_
    simp only [dCons, dTup, dNil, dCall, dC]
    refine fld_at rfl rfl ?_
    refine repr_at ha ?_
    refine ⟨sz (by simp), ?_⟩
    refine app_at ?_
    refine is_no inj (i := 11) (j := 12) (by decide) (by decide) (by decide) (by decide) (by decide) (by rfl) ?_
    refine is_no inj (i := 11) (j := 13) (by decide) (by decide) (by decide) (by decide) (by decide) (by rfl) ?_
    refine is_no inj (i := 11) (j := 14) (by decide) (by decide) (by decide) (by decide) (by decide) (by rfl) ?_
    refine is_no inj (i := 11) (j := 15) (by decide) (by decide) (by decide) (by decide) (by decide) (by rfl) ?_
    refine is_no inj (i := 11) (j := 16) (by decide) (by decide) (by decide) (by decide) (by decide) (by rfl) ?_
    refine is_no inj (i := 11) (j := 17) (by decide) (by decide) (by decide) (by decide) (by decide) (by rfl) ?_
    exact frz_at hp h
  | 11, _ =>
    refine is_no inj (i := 12) (j := 10) (by decide) (by decide) (by decide) (by decide) (by decide) (by rfl) ?_
    refine is_no inj (i := 12) (j := 11) (by decide) (by decide) (by decide) (by decide) (by decide) (by rfl) ?_
    refine is_yes inj (i := 12) (by decide) (by decide) ?_
    simp only [dCons, dTup, dNil, dCall, dC]
    refine fld_at rfl rfl ?_
    refine ⟨sz (by simp), ?_⟩
    refine app_at ?_
    refine is_no inj (i := 12) (j := 13) (by decide) (by decide) (by decide) (by decide) (by decide) (by rfl) ?_
    refine is_no inj (i := 12) (j := 14) (by decide) (by decide) (by decide) (by decide) (by decide) (by rfl) ?_
    refine is_no inj (i := 12) (j := 15) (by decide) (by decide) (by decide) (by decide) (by decide) (by rfl) ?_
    refine is_no inj (i := 12) (j := 16) (by decide) (by decide) (by decide) (by decide) (by decide) (by rfl) ?_
    refine is_no inj (i := 12) (j := 17) (by decide) (by decide) (by decide) (by decide) (by decide) (by rfl) ?_
    exact frz_at hp h
  | 12, _ =>
    refine is_no inj (i := 13) (j := 10) (by decide) (by decide) (by decide) (by decide) (by decide) (by rfl) ?_
    refine is_no inj (i := 13) (j := 11) (by decide) (by decide) (by decide) (by decide) (by decide) (by rfl) ?_
    refine is_no inj (i := 13) (j := 12) (by decide) (by decide) (by decide) (by decide) (by decide) (by rfl) ?_
    refine is_yes inj (i := 13) (by decide) (by decide) ?_
    simp only [dCons, dTup, dNil, dCall, dC]
    refine fld_at rfl rfl ?_
    refine ⟨sz (by simp), ?_⟩
    refine app_at ?_
    refine is_no inj (i := 13) (j := 14) (by decide) (by decide) (by decide) (by decide) (by decide) (by rfl) ?_
    refine is_no inj (i := 13) (j := 15) (by decide) (by decide) (by decide) (by decide) (by decide) (by rfl) ?_
    refine is_no inj (i := 13) (j := 16) (by decide) (by decide) (by decide) (by decide) (by decide) (by rfl) ?_
    refine is_no inj (i := 13) (j := 17) (by decide) (by decide) (by decide) (by decide) (by decide) (by rfl) ?_
    exact frz_at hp h
  | 13, _ =>
    refine is_no inj (i := 14) (j := 10) (by decide) (by decide) (by decide) (by decide) (by decide) (by rfl) ?_
    refine is_no inj (i := 14) (j := 11) (by decide) (by decide) (by decide) (by decide) (by decide) (by rfl) ?_
    refine is_no inj (i := 14) (j := 12) (by decide) (by decide) (by decide) (by decide) (by decide) (by rfl) ?_
    refine is_no inj (i := 14) (j := 13) (by decide) (by decide) (by decide) (by decide) (by decide) (by rfl) ?_
    refine is_yes inj (i := 14) (by decide) (by decide) ?_
    simp only [dCons, dTup, dNil, dCall, dC]
    refine fld_at rfl rfl ?_
    refine fld_at rfl rfl ?_
    refine fld_at rfl rfl ?_
    refine ⟨sz (by simp), ?_⟩
    refine app_at ?_
    refine is_no inj (i := 14) (j := 15) (by decide) (by decide) (by decide) (by decide) (by decide) (by rfl) ?_
    refine is_no inj (i := 14) (j := 16) (by decide) (by decide) (by decide) (by decide) (by decide) (by rfl) ?_
    refine is_no inj (i := 14) (j := 17) (by decide) (by decide) (by decide) (by decide) (by decide) (by rfl) ?_
    exact frz_at hp h
  | 14, _ =>
    refine is_no inj (i := 15) (j := 10) (by decide) (by decide) (by decide) (by decide) (by decide) (by rfl) ?_
    refine is_no inj (i := 15) (j := 11) (by decide) (by decide) (by decide) (by decide) (by decide) (by rfl) ?_
    refine is_no inj (i := 15) (j := 12) (by decide) (by decide) (by decide) (by decide) (by decide) (by rfl) ?_
    refine is_no inj (i := 15) (j := 13) (by decide) (by decide) (by decide) (by decide) (by decide) (by rfl) ?_
    refine is_no inj (i := 15) (j := 14) (by decide) (by decide) (by decide) (by decide) (by decide) (by rfl) ?_
    refine is_yes inj (i := 15) (by decide) (by decide) ?_
    simp only [dCons, dTup, dNil, dCall, dC]
    refine fld_at rfl rfl ?_
    refine fld_at rfl rfl ?_
    refine ⟨sz (by simp), ?_⟩
    refine app_at ?_
    refine is_no inj (i := 15) (j := 16) (by decide) (by decide) (by decide) (by decide) (by decide) (by rfl) ?_
    refine is_no inj (i := 15) (j := 17) (by decide) (by decide) (by decide) (by decide) (by decide) (by rfl) ?_
    exact frz_at hp h
  | 15, _ =>
    refine is_no inj (i := 16) (j := 10) (by decide) (by decide) (by decide) (by decide) (by decide) (by rfl) ?_
    refine is_no inj (i := 16) (j := 11) (by decide) (by decide) (by decide) (by decide) (by decide) (by rfl) ?_
    refine is_no inj (i := 16) (j := 12) (by decide) (by decide) (by decide) (by decide) (by decide) (by rfl) ?_
    refine is_no inj (i := 16) (j := 13) (by decide) (by decide) (by decide) (by decide) (by decide) (by rfl) ?_
    refine is_no inj (i := 16) (j := 14) (by decide) (by decide) (by decide) (by decide) (by decide) (by rfl) ?_
    refine is_no inj (i := 16) (j := 15) (by decide) (by decide) (by decide) (by decide) (by decide) (by rfl) ?_
    refine is_yes inj (i := 16) (by decide) (by decide) ?_
    simp only [dCons, dTup, dNil, dCall, dC]
    refine ⟨sz (by simp), ?_⟩
    refine app_at ?_
    refine is_no inj (i := 16) (j := 17) (by decide) (by decide) (by decide) (by decide) (by decide) (by rfl) ?_
    exact frz_at hp h
  | 16, _ =>
    refine is_no inj (i := 17) (j := 10) (by decide) (by decide) (by decide) (by decide) (by decide) (by rfl) ?_
    refine is_no inj (i := 17) (j := 11) (by decide) (by decide) (by decide) (by decide) (by decide) (by rfl) ?_
    refine is_no inj (i := 17) (j := 12) (by decide) (by decide) (by decide) (by decide) (by decide) (by rfl) ?_
    refine is_no inj (i := 17) (j := 13) (by decide) (by decide) (by decide) (by decide) (by decide) (by rfl) ?_
    refine is_no inj (i := 17) (j := 14) (by decide) (by decide) (by decide) (by decide) (by decide) (by rfl) ?_
    refine is_no inj (i := 17) (j := 15) (by decide) (by decide) (by decide) (by decide) (by decide) (by rfl) ?_
    refine is_no inj (i := 17) (j := 16) (by decide) (by decide) (by decide) (by decide) (by decide) (by rfl) ?_
    refine is_yes inj (i := 17) (by decide) (by decide) ?_
    simp only [dCons, dTup, dNil, dCall, dC]
    refine ⟨sz (by simp), ?_⟩
    refine app_at ?_
    exact frz_at hp h
  | _ + 17, hk => exact absurd hk (by omega)
theorem pure_kinds {c : Nat → Addr} (inj : Inj c 18) : ∀ q C fl ds M Q E, sp_kinds c q C fl ds M Q E → b_kinds c q C fl (fun C fs _ M' => E C fs M') { nx := fun _ M' => Q .non M', rt := Q } (dstart ["e", "found"] ds) M := by
  rintro q C fl ds M Q E ⟨rfl, k, a, b, d, hk, rfl, rfl, ha, hb, h⟩
  have e0 : dstart ["e", "found"] [.ref q] = [some (.ref q), none] := rfl
  rw [e0]
  unfold b_kinds
  refine found_at fun p hp => ?_
  match k, hk with
  | 0, _ =>
    refine is_yes inj (i := 1) (by decide) (by decide) ?_
    simp only [dCons, dTup, dNil, dCall, dC]
    refine fld_at rfl rfl ?_
    refine fld_at rfl rfl ?_
    refine repr_at hb ?_
    refine ⟨sz (by simp), ?_⟩
    refine app_at ?_
    refine is_no inj (i := 1) (j := 2) (by decide) (by decide) (by decide) (by decide) (by decide) (by rfl) ?_
    refine is_no inj (i := 1) (j := 3) (by decide) (by decide) (by decide) (by decide) (by decide) (by rfl) ?_
    refine is_no inj (i := 1) (j := 4) (by decide) (by decide) (by decide) (by decide) (by decide) (by rfl) ?_
    refine is_no inj (i := 1) (j := 5) (by decide) (by decide) (by decide) (by decide) (by decide) (by rfl) ?_
    refine is_no inj (i := 1) (j := 6) (by decide) (by decide) (by decide) (by decide) (by decide) (by rfl) ?_
    refine is_no inj (i := 1) (j := 7) (by decide) (by decide) (by decide) (by decide) (by decide) (by rfl) ?_
    refine is_no inj (i := 1) (j := 8) (by decide) (by decide) (by decide) (by decide) (by decide) (by rfl) ?_
    refine is_no inj (i := 1) (j := 9) (by decide) (by decide) (by decide) (by decide) (by decide) (by rfl) ?_
    exact kinds_end hp ⟨rfl, 0, a, b, d, by decide, rfl, rfl, ha, hb, sz (by simp), h⟩
  | 1, _ =>
    refine is_no inj (i := 2) (j := 1) (by decide) (by decide) (by decide) (by decide) (by decide) (by rfl) ?_
    refine is_yes inj (i := 2) (by decide) (by decide) ?_
    simp only [dCons, dTup, dNil, dCall, dC]
    refine fld_at rfl rfl ?_
    refine fld_at rfl rfl ?_
    refine repr_at hb ?_
    refine ⟨sz (by simp), ?_⟩
    refine app_at ?_
    refine is_no inj (i := 2) (j := 3) (by decide) (by decide) (by decide) (by decide) (by decide) (by rfl) ?_
    refine is_no inj (i := 2) (j := 4) (by decide) (by decide) (by decide) (by decide) (by decide) (by rfl) ?_
    refine is_no inj (i := 2) (j := 5) (by decide) (by decide) (by decide) (by decide) (by decide) (by rfl) ?_
    refine is_no inj (i := 2) (j := 6) (by decide) (by decide) (by decide) (by decide) (by decide) (by rfl) ?_
    refine is_no inj (i := 2) (j := 7) (by decide) (by decide) (by decide) (by decide) (by decide) (by rfl) ?_
    refine is_no inj (i := 2) (j := 8) (by decide) (by decide) (by decide) (by decide) (by decide) (by rfl) ?_
    refine is_no inj (i := 2) (j := 9) (by decide) (by decide) (by decide) (by decide) (by decide) (by rfl) ?_
    exact kinds_end hp ⟨rfl, 1, a, b, d, by decide, rfl, rfl, ha, hb, sz (by simp), h⟩
  | 2, _ =>
    refine is_no inj (i := 3) (j := 1) (by decide) (by decide) (by decide) (by decide) (by decide) (by rfl) ?_
    refine is_no inj (i := 3) (j := 2) (by decide) (by decide) (by decide) (by decide) (by decide) (by rfl) ?_
    refine is_yes inj (i := 3) (by decide) (by decide) ?_
    simp only [dCons, dTup, dNil, dCall, dC]
    refine fld_at rfl rfl ?_
    refine ⟨sz (by simp), ?_⟩
    refine app_at ?_
    refine is_no inj (i := 3) (j := 4) (by decide) (by decide) (by decide) (by decide) (by decide) (by rfl) ?_
    refine is_no inj (i := 3) (j := 5) (by decide) (by decide) (by decide) (by decide) (by decide) (by rfl) ?_
    refine is_no inj (i := 3) (j := 6) (by decide) (by decide) (by decide) (by decide) (by decide) (by rfl) ?_
    refine is_no inj (i := 3) (j := 7) (by decide) (by decide) (by decide) (by decide) (by decide) (by rfl) ?_
    refine is_no inj (i := 3) (j := 8) (by decide) (by decide) (by decide) (by decide) (by decide) (by rfl) ?_
    refine is_no inj (i := 3) (j := 9) (by decide) (by decide) (by decide) (by decide) (by decide) (by rfl) ?_
    exact kinds_end hp ⟨rfl, 2, a, b, d, by decide, rfl, rfl, ha, hb, sz (by simp), h⟩
  | 3, _ =>
    refine is_no inj (i := 4) (j := 1) (by decide) (by decide) (by decide) (by decide) (by decide) (by rfl) ?_
    refine is_no inj (i := 4) (j := 2) (by decide) (by decide) (by decide) (by decide) (by decide) (by rfl) ?_
    refine is_no inj (i := 4) (j := 3) (by decide) (by decide) (by decide) (by decide) (by decide) (by rfl) ?_
    refine is_yes inj (i := 4) (by decide) (by decide) ?_
    simp only [dCons, dTup, dNil, dCall, dC]
    refine fld_at rfl rfl ?_
    refine ⟨sz (by simp), ?_⟩
    refine app_at ?_
    refine is_no inj (i := 4) (j := 5) (by decide) (by decide) (by decide) (by decide) (by decide) (by rfl) ?_
    refine is_no inj (i := 4) (j := 6) (by decide) (by decide) (by decide) (by decide) (by decide) (by rfl) ?_
    refine is_no inj (i := 4) (j := 7) (by decide) (by decide) (by decide) (by decide) (by decide) (by rfl) ?_
    refine is_no inj (i := 4) (j := 8) (by decide) (by decide) (by decide) (by decide) (by decide) (by rfl) ?_
    refine is_no inj (i := 4) (j := 9) (by decide) (by decide) (by decide) (by decide) (by decide) (by rfl) ?_
    exact kinds_end hp ⟨rfl, 3, a, b, d, by decide, rfl, rfl, ha, hb, sz (by simp), h⟩
  | 4, _ =>
    refine is_no inj (i := 5) (j := 1) (by decide) (by decide) (by decide) (by decide) (by decide) (by rfl) ?_
    refine is_no inj (i := 5) (j := 2) (by decide) (by decide) (by decide) (by decide) (by decide) (by rfl) ?_
    refine is_no inj (i := 5) (j := 3) (by decide) (by decide) (by decide) (by decide) (by decide) (by rfl) ?_
    refine is_no inj (i := 5) (j := 4) (by decide) (by decide) (by decide) (by decide) (by decide) (by rfl) ?_
    refine is_yes inj (i := 5) (by decide) (by decide) ?_
    simp only [dCons, dTup, dNil, dCall, dC]
    refine fld_at rfl rfl ?_
    refine ⟨sz (by simp), ?_⟩
    refine app_at ?_
    refine is_no inj (i := 5) (j := 6) (by decide) (by decide) (by decide) (by decide) (by decide) (by rfl) ?_
    refine is_no inj (i := 5) (j := 7) (by decide) (by decide) (by decide) (by decide) (by decide) (by rfl) ?_
    refine is_no inj (i := 5) (j := 8) (by decide) (by decide) (by decide) (by decide) (by decide) (by rfl) ?_
    refine is_no inj (i := 5) (j := 9) (by decide) (by decide) (by decide) (by decide) (by decide) (by rfl) ?_
    exact kinds_end hp ⟨rfl, 4, a, b, d, by decide, rfl, rfl, ha, hb, sz (by simp), h⟩
  | 5, _ =>
    refine is_no inj (i := 6) (j := 1) (by decide) (by decide) (by decide) (by decide) (by decide) (by rfl) ?_
    refine is_no inj (i := 6) (j := 2) (by decide) (by decide) (by decide) (by decide) (by decide) (by rfl) ?_
    refine is_no inj (i := 6) (j := 3) (by decide) (by decide) (by decide) (by decide) (by decide) (by rfl) ?_
    refine is_no inj (i := 6) (j := 4) (by decide) (by decide) (by decide) (by decide) (by decide) (by rfl) ?_
    refine is_no inj (i := 6) (j := 5) (by decide) (by decide) (by decide) (by decide) (by decide) (by rfl) ?_
    refine is_yes inj (i := 6) (by decide) (by decide) ?_
    simp only [dCons, dTup, dNil, dCall, dC]
    refine fld_at rfl rfl ?_
    refine ⟨sz (by simp), ?_⟩
    refine app_at ?_
    refine is_no inj (i := 6) (j := 7) (by decide) (by decide) (by decide) (by decide) (by decide) (by rfl) ?_
    refine is_no inj (i := 6) (j := 8) (by decide) (by decide) (by decide) (by decide) (by decide) (by rfl) ?_
    refine is_no inj (i := 6) (j := 9) (by decide) (by decide) (by decide) (by decide) (by decide) (by rfl) ?_
    exact kinds_end hp ⟨rfl, 5, a, b, d, by decide, rfl, rfl, ha, hb, sz (by simp), h⟩
  | 6, _ =>
    refine is_no inj (i := 7) (j := 1) (by decide) (by decide) (by decide) (by decide) (by decide) (by rfl) ?_
    refine is_no inj (i := 7) (j := 2) (by decide) (by decide) (by decide) (by decide) (by decide) (by rfl) ?_
    refine is_no inj (i := 7) (j := 3) (by decide) (by decide) (by decide) (by decide) (by decide) (by rfl) ?_
    refine is_no inj (i := 7) (j := 4) (by decide) (by decide) (by decide) (by decide) (by decide) (by rfl) ?_
    refine is_no inj (i := 7) (j := 5) (by decide) (by decide) (by decide) (by decide) (by decide) (by rfl) ?_
    refine is_no inj (i := 7) (j := 6) (by decide) (by decide) (by decide) (by decide) (by decide) (by rfl) ?_
    refine is_yes inj (i := 7) (by decide) (by decide) ?_
    simp only [dCons, dTup, dNil, dCall, dC]
    refine fld_at rfl rfl ?_
    refine repr_at ha ?_
    refine ⟨sz (by simp), ?_⟩
    refine app_at ?_
    refine is_no inj (i := 7) (j := 8) (by decide) (by decide) (by decide) (by decide) (by decide) (by rfl) ?_
    refine is_no inj (i := 7) (j := 9) (by decide) (by decide) (by decide) (by decide) (by decide) (by rfl) ?_
    exact kinds_end hp ⟨rfl, 6, a, b, d, by decide, rfl, rfl, ha, hb, sz (by simp), h⟩
  | 7, _ =>
    refine is_no inj (i := 8) (j := 1) (by decide) (by decide) (by decide) (by decide) (by decide) (by rfl) ?_
    refine is_no inj (i := 8) (j := 2) (by decide) (by decide) (by decide) (by decide) (by decide) (by rfl) ?_
    refine is_no inj (i := 8) (j := 3) (by decide) (by decide) (by decide) (by decide) (by decide) (by rfl) ?_
    refine is_no inj (i := 8) (j := 4) (by decide) (by decide) (by decide) (by decide) (by decide) (by rfl) ?_
    refine is_no inj (i := 8) (j := 5) (by decide) (by decide) (by decide) (by decide) (by decide) (by rfl) ?_
    refine is_no inj (i := 8) (j := 6) (by decide) (by decide) (by decide) (by decide) (by decide) (by rfl) ?_
    refine is_no inj (i := 8) (j := 7) (by decide) (by decide) (by decide) (by decide) (by decide) (by rfl) ?_
    refine is_yes inj (i := 8) (by decide) (by decide) ?_
    simp only [dCons, dTup, dNil, dCall, dC]
    refine fld_at rfl rfl ?_
    refine fld_at rfl rfl ?_
    refine ⟨sz (by simp), ?_⟩
    refine app_at ?_
    refine is_no inj (i := 8) (j := 9) (by decide) (by decide) (by decide) (by decide) (by decide) (by rfl) ?_
    exact kinds_end hp ⟨rfl, 7, a, b, d, by decide, rfl, rfl, ha, hb, sz (by simp), h⟩
  | 8, _ =>
    refine is_no inj (i := 9) (j := 1) (by decide) (by decide) (by decide) (by decide) (by decide) (by rfl) ?_
    refine is_no inj (i := 9) (j := 2) (by decide) (by decide) (by decide) (by decide) (by decide) (by rfl) ?_
    refine is_no inj (i := 9) (j := 3) (by decide) (by decide) (by decide) (by decide) (by decide) (by rfl) ?_
    refine is_no inj (i := 9) (j := 4) (by decide) (by decide) (by decide) (by decide) (by decide) (by rfl) ?_
    refine is_no inj (i := 9) (j := 5) (by decide) (by decide) (by decide) (by decide) (by decide) (by rfl) ?_
    refine is_no inj (i := 9) (j := 6) (by decide) (by decide) (by decide) (by decide) (by decide) (by rfl) ?_
    refine is_no inj (i := 9) (j := 7) (by decide) (by decide) (by decide) (by decide) (by decide) (by rfl) ?_
    refine is_no inj (i := 9) (j := 8) (by decide) (by decide) (by decide) (by decide) (by decide) (by rfl) ?_
    refine is_yes inj (i := 9) (by decide) (by decide) ?_
    simp only [dCons, dTup, dNil, dCall, dC]
    refine fld_at rfl rfl ?_
    refine fld_at rfl rfl ?_
    refine repr_at hb ?_
    refine ⟨sz (by simp), ?_⟩
    refine app_at ?_
    exact kinds_end hp ⟨rfl, 8, a, b, d, by decide, rfl, rfl, ha, hb, sz (by simp), h⟩
  | 9, _ =>
    refine is_no inj (i := 10) (j := 1) (by decide) (by decide) (by decide) (by decide) (by decide) (by rfl) ?_
    refine is_no inj (i := 10) (j := 2) (by decide) (by decide) (by decide) (by decide) (by decide) (by rfl) ?_
    refine is_no inj (i := 10) (j := 3) (by decide) (by decide) (by decide) (by decide) (by decide) (by rfl) ?_
    refine is_no inj (i := 10) (j := 4) (by decide) (by decide) (by decide) (by decide) (by decide) (by rfl) ?_
    refine is_no inj (i := 10) (j := 5) (by decide) (by decide) (by decide) (by decide) (by decide) (by rfl) ?_
    refine is_no inj (i := 10) (j := 6) (by decide) (by decide) (by decide) (by decide) (by decide) (by rfl) ?_
    refine is_no inj (i := 10) (j := 7) (by decide) (by decide) (by decide) (by decide) (by decide) (by rfl) ?_
    refine is_no inj (i := 10) (j := 8) (by decide) (by decide) (by decide) (by decide) (by decide) (by rfl) ?_
    refine is_no inj (i := 10) (j := 9) (by decide) (by decide) (by decide) (by decide) (by decide) (by rfl) ?_
    exact kinds_end hp ⟨rfl, 9, a, b, d, by decide, rfl, rfl, ha, hb, sz (by simp), h⟩
  | 10, _ =>
    refine is_no inj (i := 11) (j := 1) (by decide) (by decide) (by decide) (by decide) (by decide) (by rfl) ?_
    refine is_no inj (i := 11) (j := 2) (by decide) (by decide) (by decide) (by decide) (by decide) (by rfl) ?_
    refine is_no inj (i := 11) (j := 3) (by decide) (by decide) (by decide) (by decide) (by decide) (by rfl) ?_
    refine is_no inj (i := 11) (j := 4) (by decide) (by decide) (by decide) (by decide) (by decide) (by rfl) ?_
    refine is_no inj (i := 11) (j := 5) (by decide) (by decide) (by decide) (by decide) (by decide) (by rfl) ?_
    refine is_no inj (i := 11) (j := 6) (by decide) (by decide) (by decide) (by decide) (by decide) (by rfl) ?_
    refine is_no inj (i := 11) (j := 7) (by decide) (by decide) (by decide) (by decide) (by decide) (by rfl) ?_
    refine is_no inj (i := 11) (j := 8) (by decide) (by decide) (by decide) (by decide) (by decide) (by rfl) ?_
    refine is_no inj (i := 11) (j := 9) (by decide) (by decide) (by decide) (by decide) (by decide) (by rfl) ?_
    exact kinds_end hp ⟨rfl, 10, a, b, d, by decide, rfl, rfl, ha, hb, sz (by simp), h⟩
  | 11, _ =>
    refine is_no inj (i := 12) (j := 1) (by decide) (by decide) (by decide) (by decide) (by decide) (by rfl) ?_
    refine is_no inj (i := 12) (j := 2) (by decide) (by decide) (by decide) (by decide) (by decide) (by rfl) ?_
    refine is_no inj (i := 12) (j := 3) (by decide) (by decide) (by decide) (by decide) (by decide) (by rfl) ?_
    refine is_no inj (i := 12) (j := 4) (by decide) (by decide) (by decide) (by decide) (by decide) (by rfl) ?_
    refine is_no inj (i := 12) (j := 5) (by decide) (by decide) (by decide) (by decide) (by decide) (by rfl) ?_
    refine is_no inj (i := 12) (j := 6) (by decide) (by decide) (by decide) (by decide) (by decide) (by rfl) ?_
    refine is_no inj (i := 12) (j := 7) (by decide) (by decide) (by decide) (by decide) (by decide) (by rfl) ?_
    refine is_no inj (i := 12) (j := 8) (by decide) (by decide) (by decide) (by decide) (by decide) (by rfl) ?_
    refine is_no inj (i := 12) (j := 9) (by decide) (by decide) (by decide) (by decide) (by decide) (by rfl) ?_
    exact kinds_end hp ⟨rfl, 11, a, b, d, by decide, rfl, rfl, ha, hb, sz (by simp), h⟩
  | 12, _ =>
    refine is_no inj (i := 13) (j := 1) (by decide) (by decide) (by decide) (by decide) (by decide) (by rfl) ?_
    refine is_no inj (i := 13) (j := 2) (by decide) (by decide) (by decide) (by decide) (by decide) (by rfl) ?_
    refine is_no inj (i := 13) (j := 3) (by decide) (by decide) (by decide) (by decide) (by decide) (by rfl) ?_
    refine is_no inj (i := 13) (j := 4) (by decide) (by decide) (by decide) (by decide) (by decide) (by rfl) ?_
    refine is_no inj (i := 13) (j := 5) (by decide) (by decide) (by decide) (by decide) (by decide) (by rfl) ?_
    refine is_no inj (i := 13) (j := 6) (by decide) (by decide) (by decide) (by decide) (by decide) (by rfl) ?_
    refine is_no inj (i := 13) (j := 7) (by decide) (by decide) (by decide) (by decide) (by decide) (by rfl) ?_
    refine is_no inj (i := 13) (j := 8) (by decide) (by decide) (by decide) (by decide) (by decide) (by rfl) ?_
    refine is_no inj (i := 13) (j := 9) (by decide) (by decide) (by decide) (by decide) (by decide) (by rfl) ?_
    exact kinds_end hp ⟨rfl, 12, a, b, d, by decide, rfl, rfl, ha, hb, sz (by simp), h⟩
  | 13, _ =>
    refine is_no inj (i := 14) (j := 1) (by decide) (by decide) (by decide) (by decide) (by decide) (by rfl) ?_
    refine is_no inj (i := 14) (j := 2) (by decide) (by decide) (by decide) (by decide) (by decide) (by rfl) ?_
    refine is_no inj (i := 14) (j := 3) (by decide) (by decide) (by decide) (by decide) (by decide) (by rfl) ?_
    refine is_no inj (i := 14) (j := 4) (by decide) (by decide) (by decide) (by decide) (by decide) (by rfl) ?_
    refine is_no inj (i := 14) (j := 5) (by decide) (by decide) (by decide) (by decide) (by decide) (by rfl) ?_
    refine is_no inj (i := 14) (j := 6) (by decide) (by decide) (by decide) (by decide) (by decide) (by rfl) ?_
    refine is_no inj (i := 14) (j := 7) (by decide) (by decide) (by decide) (by decide) (by decide) (by rfl) ?_
    refine is_no inj (i := 14) (j := 8) (by decide) (by decide) (by decide) (by decide) (by decide) (by rfl) ?_
    refine is_no inj (i := 14) (j := 9) (by decide) (by decide) (by decide) (by decide) (by decide) (by rfl) ?_
    exact kinds_end hp ⟨rfl, 13, a, b, d, by decide, rfl, rfl, ha, hb, sz (by simp), h⟩
  | 14, _ =>
    refine is_no inj (i := 15) (j := 1) (by decide) (by decide) (by decide) (by decide) (by decide) (by rfl) ?_
    refine is_no inj (i := 15) (j := 2) (by decide) (by decide) (by decide) (by decide) (by decide) (by rfl) ?_
    refine is_no inj (i := 15) (j := 3) (by decide) (by decide) (by decide) (by decide) (by decide) (by rfl) ?_
    refine is_no inj (i := 15) (j := 4) (by decide) (by decide) (by decide) (by decide) (by decide) (by rfl) ?_
    refine is_no inj (i := 15) (j := 5) (by decide) (by decide) (by decide) (by decide) (by decide) (by rfl) ?_
    refine is_no inj (i := 15) (j := 6) (by decide) (by decide) (by decide) (by decide) (by decide) (by rfl) ?_
    refine is_no inj (i := 15) (j := 7) (by decide) (by decide) (by decide) (by decide) (by decide) (by rfl) ?_
    refine is_no inj (i := 15) (j := 8) (by decide) (by decide) (by decide) (by decide) (by decide) (by rfl) ?_
    refine is_no inj (i := 15) (j := 9) (by decide) (by decide) (by decide) (by decide) (by decide) (by rfl) ?_
    exact kinds_end hp ⟨rfl, 14, a, b, d, by decide, rfl, rfl, ha, hb, sz (by simp), h⟩
  | 15, _ =>
    refine is_no inj (i := 16) (j := 1) (by decide) (by decide) (by decide) (by decide) (by decide) (by rfl) ?_
    refine is_no inj (i := 16) (j := 2) (by decide) (by decide) (by decide) (by decide) (by decide) (by rfl) ?_
    refine is_no inj (i := 16) (j := 3) (by decide) (by decide) (by decide) (by decide) (by decide) (by rfl) ?_
    refine is_no inj (i := 16) (j := 4) (by decide) (by decide) (by decide) (by decide) (by decide) (by rfl) ?_
    refine is_no inj (i := 16) (j := 5) (by decide) (by decide) (by decide) (by decide) (by decide) (by rfl) ?_
    refine is_no inj (i := 16) (j := 6) (by decide) (by decide) (by decide) (by decide) (by decide) (by rfl) ?_
    refine is_no inj (i := 16) (j := 7) (by decide) (by decide) (by decide) (by decide) (by decide) (by rfl) ?_
    refine is_no inj (i := 16) (j := 8) (by decide) (by decide) (by decide) (by decide) (by decide) (by rfl) ?_
    refine is_no inj (i := 16) (j := 9) (by decide) (by decide) (by decide) (by decide) (by decide) (by rfl) ?_
    exact kinds_end hp ⟨rfl, 15, a, b, d, by decide, rfl, rfl, ha, hb, sz (by simp), h⟩
  | 16, _ =>
    refine is_no inj (i := 17) (j := 1) (by decide) (by decide) (by decide) (by decide) (by decide) (by rfl) ?_
    refine is_no inj (i := 17) (j := 2) (by decide) (by decide) (by decide) (by decide) (by decide) (by rfl) ?_
    refine is_no inj (i := 17) (j := 3) (by decide) (by decide) (by decide) (by decide) (by decide) (by rfl) ?_
    refine is_no inj (i := 17) (j := 4) (by decide) (by decide) (by decide) (by decide) (by decide) (by rfl) ?_
    refine is_no inj (i := 17) (j := 5) (by decide) (by decide) (by decide) (by decide) (by decide) (by rfl) ?_
    refine is_no inj (i := 17) (j := 6) (by decide) (by decide) (by decide) (by decide) (by decide) (by rfl) ?_
    refine is_no inj (i := 17) (j := 7) (by decide) (by decide) (by decide) (by decide) (by decide) (by rfl) ?_
    refine is_no inj (i := 17) (j := 8) (by decide) (by decide) (by decide) (by decide) (by decide) (by rfl) ?_
    refine is_no inj (i := 17) (j := 9) (by decide) (by decide) (by decide) (by decide) (by decide) (by rfl) ?_
    exact kinds_end hp ⟨rfl, 16, a, b, d, by decide, rfl, rfl, ha, hb, sz (by simp), h⟩
  | _ + 17, hk => exact absurd hk (by omega)

/-! ### what the written part says -/
structure Txt (P : Program) (w : World) (K : PySem.W.Frag) (mg : Str → Option Value) (base : Heap) (c : Nat → Addr) : Prop where
  inj : Inj c 18
  err : ∀ C, C ∈ allC c 18 → Err K C (upsC c C) allF
  b_int : mg "int" = none
  b_list : mg "list" = none
  b_len : mg "len" = none
  b_repr : mg "repr" = none
  b_range : mg "range" = none
  b_isinstance : mg "isinstance" = none
  b_ValueError : mg "ValueError" = none
  m_HiddenError : mg "HiddenError" = some (.ref (c 0))
  m_BadNumber : mg "BadNumber" = some (.ref (c 1))
  i_BadNumber : Ei P w K mg base "BadNumber" (c 1) (upsC c (c 1)) ["what", "number"]
  m_BadRow : mg "BadRow" = some (.ref (c 2))
  i_BadRow : Ei P w K mg base "BadRow" (c 2) (upsC c (c 2)) ["what", "row"]
  m_BadTable : mg "BadTable" = some (.ref (c 3))
  i_BadTable : Ei P w K mg base "BadTable" (c 3) (upsC c (c 3)) ["what"]
  m_BadTree : mg "BadTree" = some (.ref (c 4))
  i_BadTree : Ei P w K mg base "BadTree" (c 4) (upsC c (c 4)) ["what"]
  m_BadPlan : mg "BadPlan" = some (.ref (c 5))
  i_BadPlan : Ei P w K mg base "BadPlan" (c 5) (upsC c (c 5)) ["what"]
  m_BadBook : mg "BadBook" = some (.ref (c 6))
  i_BadBook : Ei P w K mg base "BadBook" (c 6) (upsC c (c 6)) ["what"]
  m_BadName : mg "BadName" = some (.ref (c 7))
  i_BadName : Ei P w K mg base "BadName" (c 7) (upsC c (c 7)) ["name"]
  m_BadText : mg "BadText" = some (.ref (c 8))
  i_BadText : Ei P w K mg base "BadText" (c 8) (upsC c (c 8)) ["line", "word"]
  m_NoPlace : mg "NoPlace" = some (.ref (c 9))
  i_NoPlace : Ei P w K mg base "NoPlace" (c 9) (upsC c (c 9)) ["what", "index"]
  m_NoName : mg "NoName" = some (.ref (c 10))
  i_NoName : Ei P w K mg base "NoName" (c 10) (upsC c (c 10)) ["name"]
  m_TakenName : mg "TakenName" = some (.ref (c 11))
  i_TakenName : Ei P w K mg base "TakenName" (c 11) (upsC c (c 11)) ["name"]
  m_Unlike : mg "Unlike" = some (.ref (c 12))
  i_Unlike : Ei P w K mg base "Unlike" (c 12) (upsC c (c 12)) ["what"]
  m_NotThere : mg "NotThere" = some (.ref (c 13))
  i_NotThere : Ei P w K mg base "NotThere" (c 13) (upsC c (c 13)) ["paper"]
  m_TooMany : mg "TooMany" = some (.ref (c 14))
  i_TooMany : Ei P w K mg base "TooMany" (c 14) (upsC c (c 14)) ["what", "many", "limit"]
  m_NotKept : mg "NotKept" = some (.ref (c 15))
  i_NotKept : Ei P w K mg base "NotKept" (c 15) (upsC c (c 15)) ["promise", "witness"]
  m_NothingToUndo : mg "NothingToUndo" = some (.ref (c 16))
  i_NothingToUndo : E0 K mg "NothingToUndo" (c 16) (upsC c (c 16))
  m_NothingToRedo : mg "NothingToRedo" = some (.ref (c 17))
  i_NothingToRedo : E0 K mg "NothingToRedo" (c 17) (upsC c (c 17))
section
variable {P : Program} {w : World} {K : PySem.W.Frag} {mg : Str → Option Value} {base : Heap} {c : Nat → Addr} {X : Cx} {G0 : Hp}
theorem de_fldX {C : Addr} {ups : List Addr} {q : Addr × Obj} {fl : List (Str × D)} {n : Str} {e : Expr} {de : DE} {pos : Pos} (E : Err X.K C ups allF) (h : ExcAt X.K G0 q C fl) (hq : q ∈ X.pn) (he : PE X e (up X.K G0 de)) (hn : n ∈ allF := by decide +kernel) (hb : attributeBase e n X.env (eval e X.env) = eval e X.env := by rfl) :
    PE X (.Attribute e n pos) (up X.K G0 (dFld q.1 fl n de)) := de_fld E h hq hn he hb
theorem catch_ok (T : Txt P w K mg base c) (C : Addr) : PySem.W.exmOne K (.ref C) (.ref (c 0)) = some (decide (C ∈ allC c 18)) ∨ ∀ (fl : List (Str × D)) (ρ : Ds) (M : Mm), ¬ False ∧ decide (C ∈ allC c 18) = false := by
  by_cases h : C ∈ allC c 18
  · refine .inl ?_
    rw [(T.err C h).exm (T.err (c 0) (mem_allC (by decide))), decide_eq_true h]
    unfold isOf upsC
    by_cases e : c 0 = C
    · rw [decide_eq_true e]; rfl
    · rw [if_neg (fun z => e z.symm)]; simp
  · exact .inr fun _ _ _ => ⟨fun z => z, decide_eq_false h⟩
theorem ok_pen (T : Txt P w K mg base c) (D : Dn K mg "_law_pen" "_law_pen" s_pen ["script"])  : Fd P w K mg base 1 "_law_pen" ["script"] spPen :=
  D.ok fun f fd F => fnD_of F sc_pen len_pen bPen (fun cdv A outer s H E G0 Wd hr tk hp => by
    have hu := hr.room.units
    have hu1 : (A.deeper (envOfC "_law_pen" (defScope s_pen) s.heap.objs.size f cdv)).units + 1 < cLine := by omega
    have hg0 := hr.gd
    have hall : ∀ C ∈ allC c 18, ∃ u f, Err K C u f := fun C h => ⟨_, _, T.err C h⟩
    exact (ds_cons (ds_set (i := 1) sc_pen.nd rfl (.inl rfl) de_int)
    (ds_cons (ds_for hp rfl (di_seq rfl (dv 0)) (dg_name (i := 2) sc_pen.nd rfl (.inl rfl)) (ds_one (ds_set (i := 1) sc_pen.nd rfl (.inl rfl) (de_bin mod_ok (de_callTy int_ok (by rfl) T.b_int (by decide +kernel) (da_cons (de_bin add_ok (de_bin mul_ok (dv 1) de_int) (dv 2)) da_nil)) de_int))))
    (ds_one (ds_ret (tup_disp (dpp_str (de_callTy list_ok (by rfl) T.b_list (by decide +kernel) (da_cons (dv 0) da_nil)) (dpp_str de_int (dpp_str de_int (dpp_str de_int (dpp_str (dv 1) dpp_nil))))) rfl rfl (by simp) (by decide) (by decide +kernel) (by decide))))))) (pure_pen)
theorem ok_draw (T : Txt P w K mg base c) (D : Dn K mg "_law_draw" "_law_draw" s_draw ["pen", "many"])  : Fd P w K mg base 1 "_law_draw" ["pen", "many"] spDraw :=
  D.ok fun f fd F => fnD_of F sc_draw len_draw bDraw (fun cdv A outer s H E G0 Wd hr tk hp => by
    have hu := hr.room.units
    have hu1 : (A.deeper (envOfC "_law_draw" (defScope s_draw) s.heap.objs.size f cdv)).units + 1 < cLine := by omega
    have hg0 := hr.gd
    have hall : ∀ C ∈ allC c 18, ∃ u f, Err K C u f := fun C h => ⟨_, _, T.err C h⟩
    exact (ds_cons (ds_dput hu1 (dv 0) de_str (de_bin add_ok (de_dix hu1 (dv 0) de_str (fun _ _ => rfl)) de_int) rfl)
    (ds_cons (ds_if (dw_and (dt_cmp (eq_ok hu) (de_dix hu1 (dv 0) de_str (fun _ _ => rfl)) de_int rfl) (dw_and1 (dt_cmp lt_ok (de_dix hu1 (dv 0) de_str (fun _ _ => rfl)) (de_callB len_ok (by rfl) T.b_len (by decide +kernel) (da_cons (de_dix hu1 (dv 0) de_str (fun _ _ => rfl)) da_nil)) rfl))).pt (ds_cons (ds_set (i := 2) sc_draw.nd rfl (.inl rfl) (de_ix (de_dix hu1 (dv 0) de_str (fun _ _ => rfl)) (de_dix hu1 (dv 0) de_str (fun _ _ => rfl)) (fun _ _ => rfl)))
    (ds_cons (ds_dput hu1 (dv 0) de_str (de_bin add_ok (de_dix hu1 (dv 0) de_str (fun _ _ => rfl)) de_int) rfl)
    (ds_one (ds_if (dt_cmp ge_ok (dv 2) (de_bin pow_ok de_int de_int) rfl) (ds_one (ds_dput hu1 (dv 0) de_str (de_bin sub_ok (dv 2) (de_bin pow_ok de_int de_int)) rfl)) (ds_one (ds_dput hu1 (dv 0) de_str (de_bin mod_ok (de_callTy int_ok (by rfl) T.b_int (by decide +kernel) (da_cons (de_bin add_ok (de_bin mul_ok (de_dix hu1 (dv 0) de_str (fun _ _ => rfl)) de_int) (dv 2)) da_nil)) de_int) rfl)))))) ds_nil)
    (ds_cons (ds_if (dt_cmp gt_ok (de_dix hu1 (dv 0) de_str (fun _ _ => rfl)) de_int rfl) (ds_cons (ds_set (i := 3) sc_draw.nd rfl (.inl rfl) (de_bin mod_ok (de_callTy int_ok (by rfl) T.b_int (by decide +kernel) (da_cons (de_dix hu1 (dv 0) de_str (fun _ _ => rfl)) da_nil)) (dv 1)))
    (ds_cons (ds_dput hu1 (dv 0) de_str (de_bin fdiv_ok (de_dix hu1 (dv 0) de_str (fun _ _ => rfl)) (dv 1)) rfl)
    (ds_one (ds_ret (dv 3))))) ds_nil)
    (ds_cons (ds_set (i := 4) sc_draw.nd rfl (.inl rfl) (de_bin mod_ok (de_callTy int_ok (by rfl) T.b_int (by decide +kernel) (da_cons (de_bin add_ok (de_bin add_ok (de_bin mul_ok (de_dix hu1 (dv 0) de_str (fun _ _ => rfl)) de_int) (de_bin mul_ok (de_dix hu1 (dv 0) de_str (fun _ _ => rfl)) de_int)) de_int) da_nil)) de_int))
    (ds_cons (ds_set (i := 4) sc_draw.nd rfl (.inl rfl) (de_bin mod_ok (de_callTy int_ok (by rfl) T.b_int (by decide +kernel) (da_cons (de_bin add_ok (de_bin add_ok (de_bin mul_ok (dv 4) (dv 4)) (de_bin mul_ok de_int (dv 4))) (de_dix hu1 (dv 0) de_str (fun _ _ => rfl))) da_nil)) de_int))
    (ds_cons (ds_dput hu1 (dv 0) de_str (de_bin mod_ok (de_callTy int_ok (by rfl) T.b_int (by decide +kernel) (da_cons (de_bin add_ok (de_bin mul_ok (dv 4) de_int) de_int) da_nil)) de_int) rfl)
    (ds_one (ds_ret (de_bin mod_ok (de_callTy int_ok (by rfl) T.b_int (by decide +kernel) (da_cons (de_bin fdiv_ok (dv 4) de_int) da_nil)) (dv 1))))))))))) (pure_draw)
theorem ok_pick (T : Txt P w K mg base c) (D : Dn K mg "_law_pick" "_law_pick" s_pick ["pen", "some"]) (F_draw : Fd P w K mg base 1 "_law_draw" ["pen", "many"] spDraw) : Fd P w K mg base 2 "_law_pick" ["pen", "some"] spPick :=
  D.ok fun f fd F => fnD_of F sc_pick len_pick bPick (fun cdv A outer s H E G0 Wd hr tk hp => by
    have hu := hr.room.units
    have hu1 : (A.deeper (envOfC "_law_pick" (defScope s_pick) s.heap.objs.size f cdv)).units + 1 < cLine := by omega
    have hg0 := hr.gd
    have hall : ∀ C ∈ allC c 18, ∃ u f, Err K C u f := fun C h => ⟨_, _, T.err C h⟩
    exact (ds_one (ds_ret (de_ix (dv 1) (de_callF F_draw (hr.mono (by decide)) (by rfl) tk (da_cons (dv 0) (da_cons (de_callB len_ok (by rfl) T.b_len (by decide +kernel) (da_cons (dv 1) da_nil)) da_nil))) (fun _ _ => rfl))))) (pure_pick)
theorem ok_kinds (T : Txt P w K mg base c) (D : Dn K mg "_law_kinds" "_law_kinds" s_kinds ["e"]) (F_more_kinds : FdE P w K mg base 1 "_law_more_kinds" ["e"] (sp_more_kinds c)) : FdE P w K mg base 2 "_law_kinds" ["e"] (sp_kinds c) :=
  D.okE fun f fd F => fnE_of F sc_kinds len_kinds (b_kinds c) (fun cdv A outer s H E G0 Wd q C fl hr hx hsp tk => by
    have hun := hr.room.un
    have hu : (A.deeper (envOfC "_law_kinds" (defScope s_kinds) s.heap.objs.size f cdv)).units + 64 < cLine := by omega
    have hg0 := hr.gd
    have hC : C ∈ allC c 18 := in_kinds hsp
    have hE := T.err C hC
    have hq : q ∈ [q] := List.mem_singleton.mpr rfl
    have hall : ∀ C ∈ allC c 18, ∃ u f, Err K C u f := fun C h => ⟨_, _, T.err C h⟩
    exact (ds_cons (ds_set (i := 1) sc_kinds.nd rfl (.inl rfl) (de_lstM da_nil))
    (ds_cons (ds_if (dt_val (de_isE hE hx hq (rErr_ok hE hall) (by rfl) T.b_isinstance (da_cons (dv 0) (da_cons (de_cls T.m_BadNumber) da_nil)))) (ds_one (ds_expr (de_app (dv 1) (da_cons (de_tup (da_cons de_str (da_cons (de_fldX (n := "what") hE hx hq (dv 0)) (da_cons (de_callB (repr_ok hg0 hu) (by rfl) T.b_repr (by decide +kernel) (da_cons (de_fldX (n := "number") hE hx hq (dv 0)) da_nil)) da_nil)))) da_nil)))) ds_nil)
    (ds_cons (ds_if (dt_val (de_isE hE hx hq (rErr_ok hE hall) (by rfl) T.b_isinstance (da_cons (dv 0) (da_cons (de_cls T.m_BadRow) da_nil)))) (ds_one (ds_expr (de_app (dv 1) (da_cons (de_tup (da_cons de_str (da_cons (de_fldX (n := "what") hE hx hq (dv 0)) (da_cons (de_callB (repr_ok hg0 hu) (by rfl) T.b_repr (by decide +kernel) (da_cons (de_fldX (n := "row") hE hx hq (dv 0)) da_nil)) da_nil)))) da_nil)))) ds_nil)
    (ds_cons (ds_if (dt_val (de_isE hE hx hq (rErr_ok hE hall) (by rfl) T.b_isinstance (da_cons (dv 0) (da_cons (de_cls T.m_BadTable) da_nil)))) (ds_one (ds_expr (de_app (dv 1) (da_cons (de_tup (da_cons de_str (da_cons (de_fldX (n := "what") hE hx hq (dv 0)) da_nil))) da_nil)))) ds_nil)
    (ds_cons (ds_if (dt_val (de_isE hE hx hq (rErr_ok hE hall) (by rfl) T.b_isinstance (da_cons (dv 0) (da_cons (de_cls T.m_BadTree) da_nil)))) (ds_one (ds_expr (de_app (dv 1) (da_cons (de_tup (da_cons de_str (da_cons (de_fldX (n := "what") hE hx hq (dv 0)) da_nil))) da_nil)))) ds_nil)
    (ds_cons (ds_if (dt_val (de_isE hE hx hq (rErr_ok hE hall) (by rfl) T.b_isinstance (da_cons (dv 0) (da_cons (de_cls T.m_BadPlan) da_nil)))) (ds_one (ds_expr (de_app (dv 1) (da_cons (de_tup (da_cons de_str (da_cons (de_fldX (n := "what") hE hx hq (dv 0)) da_nil))) da_nil)))) ds_nil)
    (ds_cons (ds_if (dt_val (de_isE hE hx hq (rErr_ok hE hall) (by rfl) T.b_isinstance (da_cons (dv 0) (da_cons (de_cls T.m_BadBook) da_nil)))) (ds_one (ds_expr (de_app (dv 1) (da_cons (de_tup (da_cons de_str (da_cons (de_fldX (n := "what") hE hx hq (dv 0)) da_nil))) da_nil)))) ds_nil)
    (ds_cons (ds_if (dt_val (de_isE hE hx hq (rErr_ok hE hall) (by rfl) T.b_isinstance (da_cons (dv 0) (da_cons (de_cls T.m_BadName) da_nil)))) (ds_one (ds_expr (de_app (dv 1) (da_cons (de_tup (da_cons de_str (da_cons (de_callB (repr_ok hg0 hu) (by rfl) T.b_repr (by decide +kernel) (da_cons (de_fldX (n := "name") hE hx hq (dv 0)) da_nil)) da_nil))) da_nil)))) ds_nil)
    (ds_cons (ds_if (dt_val (de_isE hE hx hq (rErr_ok hE hall) (by rfl) T.b_isinstance (da_cons (dv 0) (da_cons (de_cls T.m_BadText) da_nil)))) (ds_one (ds_expr (de_app (dv 1) (da_cons (de_tup (da_cons de_str (da_cons (de_fldX (n := "line") hE hx hq (dv 0)) (da_cons (de_fldX (n := "word") hE hx hq (dv 0)) da_nil)))) da_nil)))) ds_nil)
    (ds_cons (ds_if (dt_val (de_isE hE hx hq (rErr_ok hE hall) (by rfl) T.b_isinstance (da_cons (dv 0) (da_cons (de_cls T.m_NoPlace) da_nil)))) (ds_one (ds_expr (de_app (dv 1) (da_cons (de_tup (da_cons de_str (da_cons (de_fldX (n := "what") hE hx hq (dv 0)) (da_cons (de_callB (repr_ok hg0 hu) (by rfl) T.b_repr (by decide +kernel) (da_cons (de_fldX (n := "index") hE hx hq (dv 0)) da_nil)) da_nil)))) da_nil)))) ds_nil)
    (ds_one (ds_ret (de_bin add_ok (de_frz (dv 1)) (de_callFE F_more_kinds hx hq (hr.mono (by decide)) (by rfl) (da_cons (dv 0) da_nil)))))))))))))))) (pure_kinds T.inj)
theorem ok_more_kinds (T : Txt P w K mg base c) (D : Dn K mg "_law_more_kinds" "_law_more_kinds" s_more_kinds ["e"])  : FdE P w K mg base 1 "_law_more_kinds" ["e"] (sp_more_kinds c) :=
  D.okE fun f fd F => fnE_of F sc_more_kinds len_more_kinds (b_more_kinds c) (fun cdv A outer s H E G0 Wd q C fl hr hx hsp tk => by
    have hun := hr.room.un
    have hu : (A.deeper (envOfC "_law_more_kinds" (defScope s_more_kinds) s.heap.objs.size f cdv)).units + 64 < cLine := by omega
    have hg0 := hr.gd
    have hC : C ∈ allC c 18 := in_more_kinds hsp
    have hE := T.err C hC
    have hq : q ∈ [q] := List.mem_singleton.mpr rfl
    have hall : ∀ C ∈ allC c 18, ∃ u f, Err K C u f := fun C h => ⟨_, _, T.err C h⟩
    exact (ds_cons (ds_set (i := 1) sc_more_kinds.nd rfl (.inl rfl) (de_lstM da_nil))
    (ds_cons (ds_if (dt_val (de_isE hE hx hq (rErr_ok hE hall) (by rfl) T.b_isinstance (da_cons (dv 0) (da_cons (de_cls T.m_NoName) da_nil)))) (ds_one (ds_expr (de_app (dv 1) (da_cons (de_tup (da_cons de_str (da_cons (de_callB (repr_ok hg0 hu) (by rfl) T.b_repr (by decide +kernel) (da_cons (de_fldX (n := "name") hE hx hq (dv 0)) da_nil)) da_nil))) da_nil)))) ds_nil)
    (ds_cons (ds_if (dt_val (de_isE hE hx hq (rErr_ok hE hall) (by rfl) T.b_isinstance (da_cons (dv 0) (da_cons (de_cls T.m_TakenName) da_nil)))) (ds_one (ds_expr (de_app (dv 1) (da_cons (de_tup (da_cons de_str (da_cons (de_callB (repr_ok hg0 hu) (by rfl) T.b_repr (by decide +kernel) (da_cons (de_fldX (n := "name") hE hx hq (dv 0)) da_nil)) da_nil))) da_nil)))) ds_nil)
    (ds_cons (ds_if (dt_val (de_isE hE hx hq (rErr_ok hE hall) (by rfl) T.b_isinstance (da_cons (dv 0) (da_cons (de_cls T.m_Unlike) da_nil)))) (ds_one (ds_expr (de_app (dv 1) (da_cons (de_tup (da_cons de_str (da_cons (de_fldX (n := "what") hE hx hq (dv 0)) da_nil))) da_nil)))) ds_nil)
    (ds_cons (ds_if (dt_val (de_isE hE hx hq (rErr_ok hE hall) (by rfl) T.b_isinstance (da_cons (dv 0) (da_cons (de_cls T.m_NotThere) da_nil)))) (ds_one (ds_expr (de_app (dv 1) (da_cons (de_tup (da_cons de_str (da_cons (de_fldX (n := "paper") hE hx hq (dv 0)) da_nil))) da_nil)))) ds_nil)
    (ds_cons (ds_if (dt_val (de_isE hE hx hq (rErr_ok hE hall) (by rfl) T.b_isinstance (da_cons (dv 0) (da_cons (de_cls T.m_TooMany) da_nil)))) (ds_one (ds_expr (de_app (dv 1) (da_cons (de_tup (da_cons de_str (da_cons (de_fldX (n := "what") hE hx hq (dv 0)) (da_cons (de_fldX (n := "many") hE hx hq (dv 0)) (da_cons (de_fldX (n := "limit") hE hx hq (dv 0)) da_nil))))) da_nil)))) ds_nil)
    (ds_cons (ds_if (dt_val (de_isE hE hx hq (rErr_ok hE hall) (by rfl) T.b_isinstance (da_cons (dv 0) (da_cons (de_cls T.m_NotKept) da_nil)))) (ds_one (ds_expr (de_app (dv 1) (da_cons (de_tup (da_cons de_str (da_cons (de_fldX (n := "promise") hE hx hq (dv 0)) (da_cons (de_fldX (n := "witness") hE hx hq (dv 0)) da_nil)))) da_nil)))) ds_nil)
    (ds_cons (ds_if (dt_val (de_isE hE hx hq (rErr_ok hE hall) (by rfl) T.b_isinstance (da_cons (dv 0) (da_cons (de_cls T.m_NothingToUndo) da_nil)))) (ds_one (ds_expr (de_app (dv 1) (da_cons (de_tup (da_cons de_str da_nil)) da_nil)))) ds_nil)
    (ds_cons (ds_if (dt_val (de_isE hE hx hq (rErr_ok hE hall) (by rfl) T.b_isinstance (da_cons (dv 0) (da_cons (de_cls T.m_NothingToRedo) da_nil)))) (ds_one (ds_expr (de_app (dv 1) (da_cons (de_tup (da_cons de_str da_nil)) da_nil)))) ds_nil)
    (ds_one (ds_ret (de_frz (dv 1)))))))))))))) (pure_more_kinds T.inj)
theorem ok_any_field (T : Txt P w K mg base c) (D : Dn K mg "_law_any_field" "_law_any_field" s_any_field ["pen"]) (F_draw : Fd P w K mg base 1 "_law_draw" ["pen", "many"] spDraw) (F_pick : Fd P w K mg base 2 "_law_pick" ["pen", "some"] spPick) : Fd P w K mg base 3 "_law_any_field" ["pen"] (sp_any_field c) :=
  D.ok fun f fd F => fnD_of F sc_any_field len_any_field (b_any_field c) (fun cdv A outer s H E G0 Wd hr tk hp => by
    have hu := hr.room.units
    have hu1 : (A.deeper (envOfC "_law_any_field" (defScope s_any_field) s.heap.objs.size f cdv)).units + 1 < cLine := by omega
    have hg0 := hr.gd
    have hall : ∀ C ∈ allC c 18, ∃ u f, Err K C u f := fun C h => ⟨_, _, T.err C h⟩
    exact (ds_cons (ds_set (i := 1) sc_any_field.nd rfl (.inl rfl) (de_callF F_draw (hr.mono (by decide)) (by rfl) tk (da_cons (dv 0) (da_cons de_int da_nil))))
    (ds_cons (ds_if (dt_cmp (eq_ok hu) (dv 1) de_int rfl) (ds_one (ds_ret (de_lst (da_cons (de_callF F_draw (hr.mono (by decide)) (by rfl) tk (da_cons (dv 0) (da_cons de_int da_nil))) (da_cons (de_lst da_nil) da_nil))))) ds_nil)
    (ds_cons (ds_if (dt_cmp (eq_ok hu) (dv 1) de_int rfl) (ds_one (ds_ret (de_tup (da_cons de_str (da_cons (de_tup (da_cons (de_callF F_draw (hr.mono (by decide)) (by rfl) tk (da_cons (dv 0) (da_cons (de_bin pow_ok de_int de_int) da_nil))) da_nil)) da_nil))))) ds_nil)
    (ds_one (ds_ret (de_callF F_pick (hr.mono (by decide)) (by rfl) tk (da_cons (dv 0) (da_cons (de_lst (da_cons de_non (da_cons de_bl (da_cons de_bl (da_cons de_int (da_cons (de_un neg_ok de_int) (da_cons de_str (da_cons de_str (da_cons (de_bin pow_ok de_int de_int) (da_cons (de_frz (tup_disp (dpp_str de_int dpp_nil) rfl rfl (by simp) (by decide) (by decide +kernel) (by decide))) da_nil)))))))))) da_nil))))))))) (pure_any_field T.inj)
theorem ok_raised (T : Txt P w K mg base c) (D : Dn K mg "_law_raised" "_law_raised" s_raised ["kind", "one", "two", "three"])  : Fd P w K mg base 3 "_law_raised" ["kind", "one", "two", "three"] (sp_raised c) :=
  D.ok fun f fd F => fnD_of F sc_raised len_raised (b_raised c) (fun cdv A outer s H E G0 Wd hr tk hp => by
    have hu := hr.room.units
    have hu1 : (A.deeper (envOfC "_law_raised" (defScope s_raised) s.heap.objs.size f cdv)).units + 1 < cLine := by omega
    have hg0 := hr.gd
    have hall : ∀ C ∈ allC c 18, ∃ u f, Err K C u f := fun C h => ⟨_, _, T.err C h⟩
    exact (ds_cons (ds_if (dt_cmp (eq_ok hu) (dv 0) de_int rfl) (ds_one (ds_raiseI (T.i_BadNumber) rfl tk (hr.mono (by decide)) (da_cons (dv 1) (da_cons (dv 2) da_nil)))) ds_nil)
    (ds_cons (ds_if (dt_cmp (eq_ok hu) (dv 0) de_int rfl) (ds_one (ds_raiseI (T.i_BadRow) rfl tk (hr.mono (by decide)) (da_cons (dv 1) (da_cons (dv 2) da_nil)))) ds_nil)
    (ds_cons (ds_if (dt_cmp (eq_ok hu) (dv 0) de_int rfl) (ds_one (ds_raiseI (T.i_BadTable) rfl tk (hr.mono (by decide)) (da_cons (dv 1) da_nil))) ds_nil)
    (ds_cons (ds_if (dt_cmp (eq_ok hu) (dv 0) de_int rfl) (ds_one (ds_raiseI (T.i_BadTree) rfl tk (hr.mono (by decide)) (da_cons (dv 1) da_nil))) ds_nil)
    (ds_cons (ds_if (dt_cmp (eq_ok hu) (dv 0) de_int rfl) (ds_one (ds_raiseI (T.i_BadPlan) rfl tk (hr.mono (by decide)) (da_cons (dv 1) da_nil))) ds_nil)
    (ds_cons (ds_if (dt_cmp (eq_ok hu) (dv 0) de_int rfl) (ds_one (ds_raiseI (T.i_BadBook) rfl tk (hr.mono (by decide)) (da_cons (dv 1) da_nil))) ds_nil)
    (ds_cons (ds_if (dt_cmp (eq_ok hu) (dv 0) de_int rfl) (ds_one (ds_raiseI (T.i_BadName) rfl tk (hr.mono (by decide)) (da_cons (dv 1) da_nil))) ds_nil)
    (ds_cons (ds_if (dt_cmp (eq_ok hu) (dv 0) de_int rfl) (ds_one (ds_raiseI (T.i_BadText) rfl tk (hr.mono (by decide)) (da_cons (dv 1) (da_cons (dv 2) da_nil)))) ds_nil)
    (ds_one (ds_if (dt_cmp (eq_ok hu) (dv 0) de_int rfl) (ds_one (ds_raiseI (T.i_NoPlace) rfl tk (hr.mono (by decide)) (da_cons (dv 1) (da_cons (dv 2) da_nil)))) ds_nil))))))))))) (pure_raised T.inj)
theorem ok_raised_too (T : Txt P w K mg base c) (D : Dn K mg "_law_raised_too" "_law_raised_too" s_raised_too ["kind", "one", "two", "three"])  : Fd P w K mg base 3 "_law_raised_too" ["kind", "one", "two", "three"] (sp_raised_too c) :=
  D.ok fun f fd F => fnD_of F sc_raised_too len_raised_too (b_raised_too c) (fun cdv A outer s H E G0 Wd hr tk hp => by
    have hu := hr.room.units
    have hu1 : (A.deeper (envOfC "_law_raised_too" (defScope s_raised_too) s.heap.objs.size f cdv)).units + 1 < cLine := by omega
    have hg0 := hr.gd
    have hall : ∀ C ∈ allC c 18, ∃ u f, Err K C u f := fun C h => ⟨_, _, T.err C h⟩
    exact (ds_cons (ds_if (dt_cmp (eq_ok hu) (dv 0) de_int rfl) (ds_one (ds_raiseI (T.i_NoName) rfl tk (hr.mono (by decide)) (da_cons (dv 1) da_nil))) ds_nil)
    (ds_cons (ds_if (dt_cmp (eq_ok hu) (dv 0) de_int rfl) (ds_one (ds_raiseI (T.i_TakenName) rfl tk (hr.mono (by decide)) (da_cons (dv 1) da_nil))) ds_nil)
    (ds_cons (ds_if (dt_cmp (eq_ok hu) (dv 0) de_int rfl) (ds_one (ds_raiseI (T.i_Unlike) rfl tk (hr.mono (by decide)) (da_cons (dv 1) da_nil))) ds_nil)
    (ds_cons (ds_if (dt_cmp (eq_ok hu) (dv 0) de_int rfl) (ds_one (ds_raiseI (T.i_NotThere) rfl tk (hr.mono (by decide)) (da_cons (dv 1) da_nil))) ds_nil)
    (ds_cons (ds_if (dt_cmp (eq_ok hu) (dv 0) de_int rfl) (ds_one (ds_raiseI (T.i_TooMany) rfl tk (hr.mono (by decide)) (da_cons (dv 1) (da_cons (dv 2) (da_cons (dv 3) da_nil))))) ds_nil)
    (ds_cons (ds_if (dt_cmp (eq_ok hu) (dv 0) de_int rfl) (ds_one (ds_raiseI (T.i_NotKept) rfl tk (hr.mono (by decide)) (da_cons (dv 1) (da_cons (dv 2) da_nil)))) ds_nil)
    (ds_cons (ds_if (dt_cmp (eq_ok hu) (dv 0) de_int rfl) (ds_one (ds_raiseN T.i_NothingToUndo rfl tk)) ds_nil)
    (ds_one (ds_if (dt_cmp (eq_ok hu) (dv 0) de_int rfl) (ds_one (ds_raiseN T.i_NothingToRedo rfl tk)) ds_nil)))))))))) (pure_raised_too T.inj)
theorem ok_told (T : Txt P w K mg base c) (D : Dn K mg "_law_told" "_law_told" s_told ["kind", "one", "two", "three"]) (F_kinds : FdE P w K mg base 2 "_law_kinds" ["e"] (sp_kinds c)) (F_raised : Fd P w K mg base 3 "_law_raised" ["kind", "one", "two", "three"] (sp_raised c)) (F_raised_too : Fd P w K mg base 3 "_law_raised_too" ["kind", "one", "two", "three"] (sp_raised_too c)) : Fd P w K mg base 4 "_law_told" ["kind", "one", "two", "three"] (sp_told c) :=
  D.ok fun f fd F => fnD_of F sc_told len_told (b_told c) (fun cdv A outer s H E G0 Wd hr tk hp => by
    have hu := hr.room.units
    have hu1 : (A.deeper (envOfC "_law_told" (defScope s_told) s.heap.objs.size f cdv)).units + 1 < cLine := by omega
    have hg0 := hr.gd
    have hall : ∀ C ∈ allC c 18, ∃ u f, Err K C u f := fun C h => ⟨_, _, T.err C h⟩
    exact (ds_cons (ds_set (i := 4) sc_told.nd rfl (.inl rfl) de_non)
    (ds_cons (ds_try_as (i := 5) rfl rfl sc_told.nd rfl rfl ⟨rfl, by decide, .inl T.m_HiddenError⟩ takesF (catch_ok T)
    (fun W G1 pn xe tk hp => (ds_cons (ds_expr (de_callF F_raised (hr.mono (by decide)) (by rfl) tk (da_cons (dv 0) (da_cons (dv 1) (da_cons (dv 2) (da_cons (dv 3) da_nil))))))
    (ds_one (ds_expr (de_callF F_raised_too (hr.mono (by decide)) (by rfl) tk (da_cons (dv 0) (da_cons (dv 1) (da_cons (dv 2) (da_cons (dv 3) da_nil)))))))))
    (fun qq C fl pn G1 hx hc => by
      have hC : C ∈ (allC c 18) := of_decide_eq_true hc
      have hE := T.err C hC
      have hq : qq ∈ qq :: pn := List.mem_cons_self
      have hrE := fun v => roomE_hot (v := v) hr
      exact (ds_one (ds_if (dt_val (de_isE hE hx hq (rErr_ok hE hall) (by rfl) T.b_isinstance (da_cons (dv 5) (da_cons (de_tyN T.b_ValueError (by decide +kernel)) da_nil)))) (ds_one (ds_set (i := 4) sc_told.nd rfl (.inl rfl) (de_callFE F_kinds hx hq ((hrE _).mono (by decide)) (by rfl) (da_cons (dv 5) da_nil)))) ds_nil))))
    (ds_one (ds_ret (dv 4)))))) (pure_told T.inj)
theorem ok_due (T : Txt P w K mg base c) (D : Dn K mg "_law_due" "_law_due" s_due ["kind", "one", "two", "three"])  : Fd P w K mg base 1 "_law_due" ["kind", "one", "two", "three"] (sp_due c) :=
  D.ok fun f fd F => fnD_of F sc_due len_due (b_due c) (fun cdv A outer s H E G0 Wd hr tk hp => by
    have hu := hr.room.units
    have hu1 : (A.deeper (envOfC "_law_due" (defScope s_due) s.heap.objs.size f cdv)).units + 1 < cLine := by omega
    have hg0 := hr.gd
    have hall : ∀ C ∈ allC c 18, ∃ u f, Err K C u f := fun C h => ⟨_, _, T.err C h⟩
    exact (ds_cons (ds_set (i := 4) sc_due.nd rfl (.inl rfl) (de_lst (da_cons de_str (da_cons de_str (da_cons de_str (da_cons de_str (da_cons de_str (da_cons de_str (da_cons de_str (da_cons de_str (da_cons de_str (da_cons de_str (da_cons de_str (da_cons de_str (da_cons de_str da_nil)))))))))))))))
    (ds_cons (ds_set (i := 4) sc_due.nd rfl (.inl rfl) (de_bin add_ok (dv 4) (de_lst (da_cons de_str (da_cons de_str (da_cons de_str (da_cons de_str da_nil)))))))
    (ds_cons (ds_if (dt_cmp in_ok (dv 0) (de_tup (da_cons de_int (da_cons de_int (da_cons de_int da_nil)))) rfl) (ds_one (ds_ret (de_tup (da_cons (de_ix (dv 4) (dv 0) (fun _ _ => rfl)) (da_cons (dv 1) (da_cons (de_callB (repr_ok hg0 hu) (by rfl) T.b_repr (by decide +kernel) (da_cons (dv 2) da_nil)) da_nil)))))) ds_nil)
    (ds_cons (ds_if (dt_cmp in_ok (dv 0) (de_tup (da_cons de_int (da_cons de_int (da_cons de_int (da_cons de_int (da_cons de_int (da_cons de_int da_nil))))))) rfl) (ds_one (ds_ret (de_tup (da_cons (de_ix (dv 4) (dv 0) (fun _ _ => rfl)) (da_cons (dv 1) da_nil))))) ds_nil)
    (ds_cons (ds_if (dt_cmp in_ok (dv 0) (de_tup (da_cons de_int (da_cons de_int (da_cons de_int da_nil)))) rfl) (ds_one (ds_ret (de_tup (da_cons (de_ix (dv 4) (dv 0) (fun _ _ => rfl)) (da_cons (de_callB (repr_ok hg0 hu) (by rfl) T.b_repr (by decide +kernel) (da_cons (dv 1) da_nil)) da_nil))))) ds_nil)
    (ds_cons (ds_if (dt_cmp in_ok (dv 0) (de_tup (da_cons de_int (da_cons de_int da_nil))) rfl) (ds_one (ds_ret (de_tup (da_cons (de_ix (dv 4) (dv 0) (fun _ _ => rfl)) (da_cons (dv 1) (da_cons (dv 2) da_nil)))))) ds_nil)
    (ds_one (ds_ret (de_ife (dt_cmp (eq_ok hu) (dv 0) de_int rfl) (de_tup (da_cons (de_ix (dv 4) (dv 0) (fun _ _ => rfl)) (da_cons (dv 1) (da_cons (dv 2) (da_cons (dv 3) da_nil))))) (de_tup (da_cons (de_ix (dv 4) (dv 0) (fun _ _ => rfl)) da_nil)))))))))))) (pure_due T.inj)
theorem run_law (T : Txt P w K mg base c) (F_pen : Fd P w K mg base 1 "_law_pen" ["script"] spPen) (F_any_field : Fd P w K mg base 3 "_law_any_field" ["pen"] (sp_any_field c)) (F_told : Fd P w K mg base 4 "_law_told" ["kind", "one", "two", "three"] (sp_told c)) (F_due : Fd P w K mg base 1 "_law_due" ["kind", "one", "two", "three"] (sp_due c)) {f : Addr} {fd : FuncData} (F : Fun K "law" "law" s_law f fd) : FnD P w K mg base 5 f fd ["script"] (sp_law c) :=
  fnD_of F sc_law len_law (b_law c) (fun cdv A outer s H E G0 Wd hr tk hp => by
    have hu := hr.room.units
    have hu1 : (A.deeper (envOfC "law" (defScope s_law) s.heap.objs.size f cdv)).units + 1 < cLine := by omega
    have hg0 := hr.gd
    have hall : ∀ C ∈ allC c 18, ∃ u f, Err K C u f := fun C h => ⟨_, _, T.err C h⟩
    exact (ds_cons (ds_set (i := 1) sc_law.nd rfl (.inl rfl) (de_callF F_pen (hr.mono (by decide)) (by rfl) tk (da_cons (dv 0) da_nil)))
    (ds_cons (ds_for hp rfl (di_rng1 (by rfl) T.b_range (da_cons de_int da_nil)) (dg_name (i := 2) sc_law.nd rfl (.inl rfl)) (ds_cons (ds_par3 (i := 3) (j := 4) (l := 5) rfl sc_law.nd rfl rfl rfl (by decide) (by decide) (by decide) rfl rfl rfl (da_cons (de_callF F_any_field (hr.mono (by decide)) (by rfl) tk (da_cons (dv 1) da_nil)) (da_cons (de_callF F_any_field (hr.mono (by decide)) (by rfl) tk (da_cons (dv 1) da_nil)) (da_cons (de_callF F_any_field (hr.mono (by decide)) (by rfl) tk (da_cons (dv 1) da_nil)) da_nil))) rfl)
    (ds_cons (ds_set (i := 6) sc_law.nd rfl (.inl rfl) (de_callF F_told (hr.mono (by decide)) (by rfl) tk (da_cons (dv 2) (da_cons (dv 3) (da_cons (dv 4) (da_cons (dv 5) da_nil))))))
    (ds_one (ds_if (dw_or (dt_cmp isN_ok (dv 6) de_non rfl) (dw_or (dt_cmp (ne_ok hu) (de_callB len_ok (by rfl) T.b_len (by decide +kernel) (da_cons (dv 6) da_nil)) de_int rfl) (dw_or1 (dt_cmp (ne_ok hu) (de_callB (repr_ok hg0 hu) (by rfl) T.b_repr (by decide +kernel) (da_cons (de_ix (dv 6) de_int (fun _ _ => rfl)) da_nil)) (de_callB (repr_ok hg0 hu) (by rfl) T.b_repr (by decide +kernel) (da_cons (de_callF F_due (hr.mono (by decide)) (by rfl) tk (da_cons (dv 2) (da_cons (dv 3) (da_cons (dv 4) (da_cons (dv 5) da_nil))))) da_nil)) rfl)))).pt (ds_one (ds_ret de_bl)) ds_nil)))))
    (ds_one (ds_ret de_bl))))) (pure_law T.inj)
end
end K01
set_option maxHeartbeats 4000000
namespace K01
open PySem PySem.Spec PyProof.Rows L2 Dq
open PySem.W (findIn typeIn keepIn)
section
variable {P : Program} {w : World} {K : PySem.W.Frag} {mg : Str → Option Value} {base : Heap} {c : Nat → Addr}
theorem lk {X : Cx} {sc : Scope} {x : Str} (hs : X.env.scope = sc) (h : sc.names.lookup x = some .local) : Vis X.env.scope x := .inl (by rw [hs]; exact h)
theorem nd {X : Cx} {N : List Str} {i : Nat} {x : Str} (hs : X.N = N) (h : N[i]? = some x) : X.N[i]? = some x := by rw [hs]; exact h
theorem ei_BadNumber {C fI : Addr} {fd : FuncData} (hm : mg "BadNumber" = some (.ref C)) (E : Err K C (upsC c C) allF) (iC : findIn K (.ref C) "__init__" = some (some (.ref fI))) (tI : typeIn K (.ref fI) = some (.type "function")) (F : Fun K "__init__" "BadNumber.__init__" i_BadNumber fI fd) : Ei P w K mg base "BadNumber" C (upsC c C) ["what", "number"] :=
  ⟨hm, ⟨_, E⟩, fI, fd, ["self", "what", "number"], iC, tI, F.binds (ps := ["self", "what", "number"]) fun _ _ _ _ _ _ us hl => (match us, hl with | [_, _, _], _ => rfl), init2 F E sci_BadNumber (by decide +kernel) (by decide +kernel) fun X hK hs hN => by subst hK; exact (pss_cons (ps_ost (pe_var (i := 0) (nd hN rfl) (lk hs rfl)) (pe_var (i := 1) (nd hN rfl) (lk hs rfl))) (pss_one (ps_ost (pe_var (i := 0) (nd hN rfl) (lk hs rfl)) (pe_var (i := 2) (nd hN rfl) (lk hs rfl)))))⟩
theorem ei_BadRow {C fI : Addr} {fd : FuncData} (hm : mg "BadRow" = some (.ref C)) (E : Err K C (upsC c C) allF) (iC : findIn K (.ref C) "__init__" = some (some (.ref fI))) (tI : typeIn K (.ref fI) = some (.type "function")) (F : Fun K "__init__" "BadRow.__init__" i_BadRow fI fd) : Ei P w K mg base "BadRow" C (upsC c C) ["what", "row"] :=
  ⟨hm, ⟨_, E⟩, fI, fd, ["self", "what", "row"], iC, tI, F.binds (ps := ["self", "what", "row"]) fun _ _ _ _ _ _ us hl => (match us, hl with | [_, _, _], _ => rfl), init2 F E sci_BadRow (by decide +kernel) (by decide +kernel) fun X hK hs hN => by subst hK; exact (pss_cons (ps_ost (pe_var (i := 0) (nd hN rfl) (lk hs rfl)) (pe_var (i := 1) (nd hN rfl) (lk hs rfl))) (pss_one (ps_ost (pe_var (i := 0) (nd hN rfl) (lk hs rfl)) (pe_var (i := 2) (nd hN rfl) (lk hs rfl)))))⟩
theorem ei_BadTable {C fI : Addr} {fd : FuncData} (hm : mg "BadTable" = some (.ref C)) (E : Err K C (upsC c C) allF) (iC : findIn K (.ref C) "__init__" = some (some (.ref fI))) (tI : typeIn K (.ref fI) = some (.type "function")) (F : Fun K "__init__" "BadTable.__init__" i_BadTable fI fd) : Ei P w K mg base "BadTable" C (upsC c C) ["what"] :=
  ⟨hm, ⟨_, E⟩, fI, fd, ["self", "what"], iC, tI, F.binds (ps := ["self", "what"]) fun _ _ _ _ _ _ us hl => (match us, hl with | [_, _], _ => rfl), init1 F E sci_BadTable (by decide +kernel) fun X hK hs hN => by subst hK; exact (pss_one (ps_ost (pe_var (i := 0) (nd hN rfl) (lk hs rfl)) (pe_var (i := 1) (nd hN rfl) (lk hs rfl))))⟩
theorem ei_BadTree {C fI : Addr} {fd : FuncData} (hm : mg "BadTree" = some (.ref C)) (E : Err K C (upsC c C) allF) (iC : findIn K (.ref C) "__init__" = some (some (.ref fI))) (tI : typeIn K (.ref fI) = some (.type "function")) (F : Fun K "__init__" "BadTree.__init__" i_BadTree fI fd) : Ei P w K mg base "BadTree" C (upsC c C) ["what"] :=
  ⟨hm, ⟨_, E⟩, fI, fd, ["self", "what"], iC, tI, F.binds (ps := ["self", "what"]) fun _ _ _ _ _ _ us hl => (match us, hl with | [_, _], _ => rfl), init1 F E sci_BadTree (by decide +kernel) fun X hK hs hN => by subst hK; exact (pss_one (ps_ost (pe_var (i := 0) (nd hN rfl) (lk hs rfl)) (pe_var (i := 1) (nd hN rfl) (lk hs rfl))))⟩
theorem ei_BadPlan {C fI : Addr} {fd : FuncData} (hm : mg "BadPlan" = some (.ref C)) (E : Err K C (upsC c C) allF) (iC : findIn K (.ref C) "__init__" = some (some (.ref fI))) (tI : typeIn K (.ref fI) = some (.type "function")) (F : Fun K "__init__" "BadPlan.__init__" i_BadPlan fI fd) : Ei P w K mg base "BadPlan" C (upsC c C) ["what"] :=
  ⟨hm, ⟨_, E⟩, fI, fd, ["self", "what"], iC, tI, F.binds (ps := ["self", "what"]) fun _ _ _ _ _ _ us hl => (match us, hl with | [_, _], _ => rfl), init1 F E sci_BadPlan (by decide +kernel) fun X hK hs hN => by subst hK; exact (pss_one (ps_ost (pe_var (i := 0) (nd hN rfl) (lk hs rfl)) (pe_var (i := 1) (nd hN rfl) (lk hs rfl))))⟩
theorem ei_BadBook {C fI : Addr} {fd : FuncData} (hm : mg "BadBook" = some (.ref C)) (E : Err K C (upsC c C) allF) (iC : findIn K (.ref C) "__init__" = some (some (.ref fI))) (tI : typeIn K (.ref fI) = some (.type "function")) (F : Fun K "__init__" "BadBook.__init__" i_BadBook fI fd) : Ei P w K mg base "BadBook" C (upsC c C) ["what"] :=
  ⟨hm, ⟨_, E⟩, fI, fd, ["self", "what"], iC, tI, F.binds (ps := ["self", "what"]) fun _ _ _ _ _ _ us hl => (match us, hl with | [_, _], _ => rfl), init1 F E sci_BadBook (by decide +kernel) fun X hK hs hN => by subst hK; exact (pss_one (ps_ost (pe_var (i := 0) (nd hN rfl) (lk hs rfl)) (pe_var (i := 1) (nd hN rfl) (lk hs rfl))))⟩
theorem ei_BadName {C fI : Addr} {fd : FuncData} (hm : mg "BadName" = some (.ref C)) (E : Err K C (upsC c C) allF) (iC : findIn K (.ref C) "__init__" = some (some (.ref fI))) (tI : typeIn K (.ref fI) = some (.type "function")) (F : Fun K "__init__" "BadName.__init__" i_BadName fI fd) : Ei P w K mg base "BadName" C (upsC c C) ["name"] :=
  ⟨hm, ⟨_, E⟩, fI, fd, ["self", "name"], iC, tI, F.binds (ps := ["self", "name"]) fun _ _ _ _ _ _ us hl => (match us, hl with | [_, _], _ => rfl), init1 F E sci_BadName (by decide +kernel) fun X hK hs hN => by subst hK; exact (pss_one (ps_ost (pe_var (i := 0) (nd hN rfl) (lk hs rfl)) (pe_var (i := 1) (nd hN rfl) (lk hs rfl))))⟩
theorem ei_BadText {C fI : Addr} {fd : FuncData} (hm : mg "BadText" = some (.ref C)) (E : Err K C (upsC c C) allF) (iC : findIn K (.ref C) "__init__" = some (some (.ref fI))) (tI : typeIn K (.ref fI) = some (.type "function")) (F : Fun K "__init__" "BadText.__init__" i_BadText fI fd) : Ei P w K mg base "BadText" C (upsC c C) ["line", "word"] :=
  ⟨hm, ⟨_, E⟩, fI, fd, ["self", "line", "word"], iC, tI, F.binds (ps := ["self", "line", "word"]) fun _ _ _ _ _ _ us hl => (match us, hl with | [_, _, _], _ => rfl), init2 F E sci_BadText (by decide +kernel) (by decide +kernel) fun X hK hs hN => by subst hK; exact (pss_cons (ps_ost (pe_var (i := 0) (nd hN rfl) (lk hs rfl)) (pe_var (i := 1) (nd hN rfl) (lk hs rfl))) (pss_one (ps_ost (pe_var (i := 0) (nd hN rfl) (lk hs rfl)) (pe_var (i := 2) (nd hN rfl) (lk hs rfl)))))⟩
theorem ei_NoPlace {C fI : Addr} {fd : FuncData} (hm : mg "NoPlace" = some (.ref C)) (E : Err K C (upsC c C) allF) (iC : findIn K (.ref C) "__init__" = some (some (.ref fI))) (tI : typeIn K (.ref fI) = some (.type "function")) (F : Fun K "__init__" "NoPlace.__init__" i_NoPlace fI fd) : Ei P w K mg base "NoPlace" C (upsC c C) ["what", "index"] :=
  ⟨hm, ⟨_, E⟩, fI, fd, ["self", "what", "index"], iC, tI, F.binds (ps := ["self", "what", "index"]) fun _ _ _ _ _ _ us hl => (match us, hl with | [_, _, _], _ => rfl), init2 F E sci_NoPlace (by decide +kernel) (by decide +kernel) fun X hK hs hN => by subst hK; exact (pss_cons (ps_ost (pe_var (i := 0) (nd hN rfl) (lk hs rfl)) (pe_var (i := 1) (nd hN rfl) (lk hs rfl))) (pss_one (ps_ost (pe_var (i := 0) (nd hN rfl) (lk hs rfl)) (pe_var (i := 2) (nd hN rfl) (lk hs rfl)))))⟩
theorem ei_NoName {C fI : Addr} {fd : FuncData} (hm : mg "NoName" = some (.ref C)) (E : Err K C (upsC c C) allF) (iC : findIn K (.ref C) "__init__" = some (some (.ref fI))) (tI : typeIn K (.ref fI) = some (.type "function")) (F : Fun K "__init__" "NoName.__init__" i_NoName fI fd) : Ei P w K mg base "NoName" C (upsC c C) ["name"] :=
  ⟨hm, ⟨_, E⟩, fI, fd, ["self", "name"], iC, tI, F.binds (ps := ["self", "name"]) fun _ _ _ _ _ _ us hl => (match us, hl with | [_, _], _ => rfl), init1 F E sci_NoName (by decide +kernel) fun X hK hs hN => by subst hK; exact (pss_one (ps_ost (pe_var (i := 0) (nd hN rfl) (lk hs rfl)) (pe_var (i := 1) (nd hN rfl) (lk hs rfl))))⟩
theorem ei_TakenName {C fI : Addr} {fd : FuncData} (hm : mg "TakenName" = some (.ref C)) (E : Err K C (upsC c C) allF) (iC : findIn K (.ref C) "__init__" = some (some (.ref fI))) (tI : typeIn K (.ref fI) = some (.type "function")) (F : Fun K "__init__" "TakenName.__init__" i_TakenName fI fd) : Ei P w K mg base "TakenName" C (upsC c C) ["name"] :=
  ⟨hm, ⟨_, E⟩, fI, fd, ["self", "name"], iC, tI, F.binds (ps := ["self", "name"]) fun _ _ _ _ _ _ us hl => (match us, hl with | [_, _], _ => rfl), init1 F E sci_TakenName (by decide +kernel) fun X hK hs hN => by subst hK; exact (pss_one (ps_ost (pe_var (i := 0) (nd hN rfl) (lk hs rfl)) (pe_var (i := 1) (nd hN rfl) (lk hs rfl))))⟩
theorem ei_Unlike {C fI : Addr} {fd : FuncData} (hm : mg "Unlike" = some (.ref C)) (E : Err K C (upsC c C) allF) (iC : findIn K (.ref C) "__init__" = some (some (.ref fI))) (tI : typeIn K (.ref fI) = some (.type "function")) (F : Fun K "__init__" "Unlike.__init__" i_Unlike fI fd) : Ei P w K mg base "Unlike" C (upsC c C) ["what"] :=
  ⟨hm, ⟨_, E⟩, fI, fd, ["self", "what"], iC, tI, F.binds (ps := ["self", "what"]) fun _ _ _ _ _ _ us hl => (match us, hl with | [_, _], _ => rfl), init1 F E sci_Unlike (by decide +kernel) fun X hK hs hN => by subst hK; exact (pss_one (ps_ost (pe_var (i := 0) (nd hN rfl) (lk hs rfl)) (pe_var (i := 1) (nd hN rfl) (lk hs rfl))))⟩
theorem ei_NotThere {C fI : Addr} {fd : FuncData} (hm : mg "NotThere" = some (.ref C)) (E : Err K C (upsC c C) allF) (iC : findIn K (.ref C) "__init__" = some (some (.ref fI))) (tI : typeIn K (.ref fI) = some (.type "function")) (F : Fun K "__init__" "NotThere.__init__" i_NotThere fI fd) : Ei P w K mg base "NotThere" C (upsC c C) ["paper"] :=
  ⟨hm, ⟨_, E⟩, fI, fd, ["self", "paper"], iC, tI, F.binds (ps := ["self", "paper"]) fun _ _ _ _ _ _ us hl => (match us, hl with | [_, _], _ => rfl), init1 F E sci_NotThere (by decide +kernel) fun X hK hs hN => by subst hK; exact (pss_one (ps_ost (pe_var (i := 0) (nd hN rfl) (lk hs rfl)) (pe_var (i := 1) (nd hN rfl) (lk hs rfl))))⟩
theorem ei_TooMany {C fI : Addr} {fd : FuncData} (hm : mg "TooMany" = some (.ref C)) (E : Err K C (upsC c C) allF) (iC : findIn K (.ref C) "__init__" = some (some (.ref fI))) (tI : typeIn K (.ref fI) = some (.type "function")) (F : Fun K "__init__" "TooMany.__init__" i_TooMany fI fd) : Ei P w K mg base "TooMany" C (upsC c C) ["what", "many", "limit"] :=
  ⟨hm, ⟨_, E⟩, fI, fd, ["self", "what", "many", "limit"], iC, tI, F.binds (ps := ["self", "what", "many", "limit"]) fun _ _ _ _ _ _ us hl => (match us, hl with | [_, _, _, _], _ => rfl), init3 F E sci_TooMany (by decide +kernel) (by decide +kernel) (by decide +kernel) fun X hK hs hN => by subst hK; exact (pss_cons (ps_ost (pe_var (i := 0) (nd hN rfl) (lk hs rfl)) (pe_var (i := 1) (nd hN rfl) (lk hs rfl))) (pss_cons (ps_ost (pe_var (i := 0) (nd hN rfl) (lk hs rfl)) (pe_var (i := 2) (nd hN rfl) (lk hs rfl))) (pss_one (ps_ost (pe_var (i := 0) (nd hN rfl) (lk hs rfl)) (pe_var (i := 3) (nd hN rfl) (lk hs rfl))))))⟩
theorem ei_NotKept {C fI : Addr} {fd : FuncData} (hm : mg "NotKept" = some (.ref C)) (E : Err K C (upsC c C) allF) (iC : findIn K (.ref C) "__init__" = some (some (.ref fI))) (tI : typeIn K (.ref fI) = some (.type "function")) (F : Fun K "__init__" "NotKept.__init__" i_NotKept fI fd) : Ei P w K mg base "NotKept" C (upsC c C) ["promise", "witness"] :=
  ⟨hm, ⟨_, E⟩, fI, fd, ["self", "promise", "witness"], iC, tI, F.binds (ps := ["self", "promise", "witness"]) fun _ _ _ _ _ _ us hl => (match us, hl with | [_, _, _], _ => rfl), init2 F E sci_NotKept (by decide +kernel) (by decide +kernel) fun X hK hs hN => by subst hK; exact (pss_cons (ps_ost (pe_var (i := 0) (nd hN rfl) (lk hs rfl)) (pe_var (i := 1) (nd hN rfl) (lk hs rfl))) (pss_one (ps_ost (pe_var (i := 0) (nd hN rfl) (lk hs rfl)) (pe_var (i := 2) (nd hN rfl) (lk hs rfl)))))⟩
end
def cOf (l : List Addr) (i : Nat) : Addr := l.getD i 0
theorem inj_of {l : List Addr} {n : Nat} (h : decide ((List.range n).map (cOf l)).Nodup = true) : Inj (cOf l) n := by
  intro i j hi hj e
  have nd := of_decide_eq_true h
  have h1 : ((List.range n).map (cOf l))[i]? = some (cOf l i) := by rw [List.getElem?_map, List.getElem?_range hi]; rfl
  have h2 : ((List.range n).map (cOf l))[j]? = some (cOf l i) := by rw [List.getElem?_map, List.getElem?_range hj, e]; rfl
  exact (List.getElem?_inj (by simpa using hi) nd).mp (h1.trans h2.symm)
theorem err_all {K : PySem.W.Frag} {c : Nat → Addr} {n : Nat} (h : ((List.range n).all fun i => errChk K (c i) (upsC c (c i)) allF) = true) : ∀ C, C ∈ allC c n → Err K C (upsC c C) allF := by
  intro C hC
  obtain ⟨i, hi, rfl⟩ := List.mem_map.mp hC
  exact err_of (List.all_eq_true.mp h i hi)
theorem all_mk {P : Program} {w : World} {K : PySem.W.Frag} {h : Heap} {mg : Str → Option Value} {C0 C1 C2 C3 C4 C5 C6 C7 C8 C9 C10 C11 C12 C13 C14 C15 C16 C17 fa fi0 fi1 fi2 fi3 fi4 fi5 fi6 fi7 fi8 fi9 fi10 fi11 fi12 fi13 fi14 g0 g1 g2 g3 g4 g5 g6 g7 g8 g9 g10 : Addr} {fd0 fd1 fd2 fd3 fd4 fd5 fd6 fd7 fd8 fd9 fd10 fd11 fd12 fd13 fd14 gd0 gd1 gd2 gd3 gd4 gd5 gd6 gd7 gd8 gd9 gd10 : FuncData} (X : K.In h) (G : h.Ns mainGlobals mg) (hfa : mg "law" = some (.ref fa))
    (a0 : PySem.W.nsIn K mainGlobals "HiddenError" = some (some (.ref C0)))
    (a1 : PySem.W.nsIn K mainGlobals "BadNumber" = some (some (.ref C1)))
    (a2 : PySem.W.nsIn K mainGlobals "BadRow" = some (some (.ref C2)))
    (a3 : PySem.W.nsIn K mainGlobals "BadTable" = some (some (.ref C3)))
    (a4 : PySem.W.nsIn K mainGlobals "BadTree" = some (some (.ref C4)))
    (a5 : PySem.W.nsIn K mainGlobals "BadPlan" = some (some (.ref C5)))
    (a6 : PySem.W.nsIn K mainGlobals "BadBook" = some (some (.ref C6)))
    (a7 : PySem.W.nsIn K mainGlobals "BadName" = some (some (.ref C7)))
    (a8 : PySem.W.nsIn K mainGlobals "BadText" = some (some (.ref C8)))
    (a9 : PySem.W.nsIn K mainGlobals "NoPlace" = some (some (.ref C9)))
    (a10 : PySem.W.nsIn K mainGlobals "NoName" = some (some (.ref C10)))
    (a11 : PySem.W.nsIn K mainGlobals "TakenName" = some (some (.ref C11)))
    (a12 : PySem.W.nsIn K mainGlobals "Unlike" = some (some (.ref C12)))
    (a13 : PySem.W.nsIn K mainGlobals "NotThere" = some (some (.ref C13)))
    (a14 : PySem.W.nsIn K mainGlobals "TooMany" = some (some (.ref C14)))
    (a15 : PySem.W.nsIn K mainGlobals "NotKept" = some (some (.ref C15)))
    (a16 : PySem.W.nsIn K mainGlobals "NothingToUndo" = some (some (.ref C16)))
    (a17 : PySem.W.nsIn K mainGlobals "NothingToRedo" = some (some (.ref C17)))
    (hinj : decide ((List.range 18).map (cOf [C0, C1, C2, C3, C4, C5, C6, C7, C8, C9, C10, C11, C12, C13, C14, C15, C16, C17])).Nodup = true)
    (herr : ((List.range 18).all fun i => errChk K (cOf [C0, C1, C2, C3, C4, C5, C6, C7, C8, C9, C10, C11, C12, C13, C14, C15, C16, C17] i) (upsC (cOf [C0, C1, C2, C3, C4, C5, C6, C7, C8, C9, C10, C11, C12, C13, C14, C15, C16, C17]) (cOf [C0, C1, C2, C3, C4, C5, C6, C7, C8, C9, C10, C11, C12, C13, C14, C15, C16, C17] i)) allF) = true)
    (z_int : PySem.W.nsIn K mainGlobals "int" = some none)
    (z_list : PySem.W.nsIn K mainGlobals "list" = some none)
    (z_len : PySem.W.nsIn K mainGlobals "len" = some none)
    (z_repr : PySem.W.nsIn K mainGlobals "repr" = some none)
    (z_range : PySem.W.nsIn K mainGlobals "range" = some none)
    (z_isinstance : PySem.W.nsIn K mainGlobals "isinstance" = some none)
    (z_ValueError : PySem.W.nsIn K mainGlobals "ValueError" = some none)
    (i0 : findIn K (.ref C1) "__init__" = some (some (.ref fi0)))
    (t0 : typeIn K (.ref fi0) = some (.type "function"))
    (F0 : Fun K "__init__" "BadNumber.__init__" i_BadNumber fi0 fd0)
    (i1 : findIn K (.ref C2) "__init__" = some (some (.ref fi1)))
    (t1 : typeIn K (.ref fi1) = some (.type "function"))
    (F1 : Fun K "__init__" "BadRow.__init__" i_BadRow fi1 fd1)
    (i2 : findIn K (.ref C3) "__init__" = some (some (.ref fi2)))
    (t2 : typeIn K (.ref fi2) = some (.type "function"))
    (F2 : Fun K "__init__" "BadTable.__init__" i_BadTable fi2 fd2)
    (i3 : findIn K (.ref C4) "__init__" = some (some (.ref fi3)))
    (t3 : typeIn K (.ref fi3) = some (.type "function"))
    (F3 : Fun K "__init__" "BadTree.__init__" i_BadTree fi3 fd3)
    (i4 : findIn K (.ref C5) "__init__" = some (some (.ref fi4)))
    (t4 : typeIn K (.ref fi4) = some (.type "function"))
    (F4 : Fun K "__init__" "BadPlan.__init__" i_BadPlan fi4 fd4)
    (i5 : findIn K (.ref C6) "__init__" = some (some (.ref fi5)))
    (t5 : typeIn K (.ref fi5) = some (.type "function"))
    (F5 : Fun K "__init__" "BadBook.__init__" i_BadBook fi5 fd5)
    (i6 : findIn K (.ref C7) "__init__" = some (some (.ref fi6)))
    (t6 : typeIn K (.ref fi6) = some (.type "function"))
    (F6 : Fun K "__init__" "BadName.__init__" i_BadName fi6 fd6)
    (i7 : findIn K (.ref C8) "__init__" = some (some (.ref fi7)))
    (t7 : typeIn K (.ref fi7) = some (.type "function"))
    (F7 : Fun K "__init__" "BadText.__init__" i_BadText fi7 fd7)
    (i8 : findIn K (.ref C9) "__init__" = some (some (.ref fi8)))
    (t8 : typeIn K (.ref fi8) = some (.type "function"))
    (F8 : Fun K "__init__" "NoPlace.__init__" i_NoPlace fi8 fd8)
    (i9 : findIn K (.ref C10) "__init__" = some (some (.ref fi9)))
    (t9 : typeIn K (.ref fi9) = some (.type "function"))
    (F9 : Fun K "__init__" "NoName.__init__" i_NoName fi9 fd9)
    (i10 : findIn K (.ref C11) "__init__" = some (some (.ref fi10)))
    (t10 : typeIn K (.ref fi10) = some (.type "function"))
    (F10 : Fun K "__init__" "TakenName.__init__" i_TakenName fi10 fd10)
    (i11 : findIn K (.ref C12) "__init__" = some (some (.ref fi11)))
    (t11 : typeIn K (.ref fi11) = some (.type "function"))
    (F11 : Fun K "__init__" "Unlike.__init__" i_Unlike fi11 fd11)
    (i12 : findIn K (.ref C13) "__init__" = some (some (.ref fi12)))
    (t12 : typeIn K (.ref fi12) = some (.type "function"))
    (F12 : Fun K "__init__" "NotThere.__init__" i_NotThere fi12 fd12)
    (i13 : findIn K (.ref C14) "__init__" = some (some (.ref fi13)))
    (t13 : typeIn K (.ref fi13) = some (.type "function"))
    (F13 : Fun K "__init__" "TooMany.__init__" i_TooMany fi13 fd13)
    (i14 : findIn K (.ref C15) "__init__" = some (some (.ref fi14)))
    (t14 : typeIn K (.ref fi14) = some (.type "function"))
    (F14 : Fun K "__init__" "NotKept.__init__" i_NotKept fi14 fd14)
    (x0 : PySem.W.excIn K C16 errTail "ValueError.__new__" = true)
    (x1 : PySem.W.excIn K C17 errTail "ValueError.__new__" = true)
    (b0 : PySem.W.nsIn K mainGlobals "_law_pen" = some (some (.ref g0)))
    (D0 : Fun K "_law_pen" "_law_pen" s_pen g0 gd0)
    (b1 : PySem.W.nsIn K mainGlobals "_law_draw" = some (some (.ref g1)))
    (D1 : Fun K "_law_draw" "_law_draw" s_draw g1 gd1)
    (b2 : PySem.W.nsIn K mainGlobals "_law_pick" = some (some (.ref g2)))
    (D2 : Fun K "_law_pick" "_law_pick" s_pick g2 gd2)
    (b3 : PySem.W.nsIn K mainGlobals "_law_kinds" = some (some (.ref g3)))
    (D3 : Fun K "_law_kinds" "_law_kinds" s_kinds g3 gd3)
    (b4 : PySem.W.nsIn K mainGlobals "_law_more_kinds" = some (some (.ref g4)))
    (D4 : Fun K "_law_more_kinds" "_law_more_kinds" s_more_kinds g4 gd4)
    (b5 : PySem.W.nsIn K mainGlobals "_law_any_field" = some (some (.ref g5)))
    (D5 : Fun K "_law_any_field" "_law_any_field" s_any_field g5 gd5)
    (b6 : PySem.W.nsIn K mainGlobals "_law_raised" = some (some (.ref g6)))
    (D6 : Fun K "_law_raised" "_law_raised" s_raised g6 gd6)
    (b7 : PySem.W.nsIn K mainGlobals "_law_raised_too" = some (some (.ref g7)))
    (D7 : Fun K "_law_raised_too" "_law_raised_too" s_raised_too g7 gd7)
    (b8 : PySem.W.nsIn K mainGlobals "_law_told" = some (some (.ref g8)))
    (D8 : Fun K "_law_told" "_law_told" s_told g8 gd8)
    (b9 : PySem.W.nsIn K mainGlobals "_law_due" = some (some (.ref g9)))
    (D9 : Fun K "_law_due" "_law_due" s_due g9 gd9)
    (b10 : PySem.W.nsIn K mainGlobals "law" = some (some (.ref g10)))
    (D10 : Fun K "law" "law" s_law g10 gd10)
    : ∃ fd : FuncData, (∀ (s : Shared) (u : Value), BindsTo s fd ⟨[u], []⟩ [(("script" : Str), u)]) ∧ ∀ base : Heap, K.In base → base.Ns mainGlobals mg → FnD P w K mg base 5 fa fd ["script"] (sp_law (cOf [C0, C1, C2, C3, C4, C5, C6, C7, C8, C9, C10, C11, C12, C13, C14, C15, C16, C17])) := by
  have e := hfa.symm.trans (PySem.W.mg_of X G b10)
  cases e
  have hE := err_all (c := cOf [C0, C1, C2, C3, C4, C5, C6, C7, C8, C9, C10, C11, C12, C13, C14, C15, C16, C17]) herr
  have Dn0 : Dn K mg "_law_pen" "_law_pen" s_pen ["script"] := dn_mk (PySem.W.mg_of X G b0) D0 (D0.binds (ps := ["script"]) fun _ _ _ _ _ _ us hl => match us, hl with | [_], _ => rfl)
  have Dn1 : Dn K mg "_law_draw" "_law_draw" s_draw ["pen", "many"] := dn_mk (PySem.W.mg_of X G b1) D1 (D1.binds (ps := ["pen", "many"]) fun _ _ _ _ _ _ us hl => match us, hl with | [_, _], _ => rfl)
  have Dn2 : Dn K mg "_law_pick" "_law_pick" s_pick ["pen", "some"] := dn_mk (PySem.W.mg_of X G b2) D2 (D2.binds (ps := ["pen", "some"]) fun _ _ _ _ _ _ us hl => match us, hl with | [_, _], _ => rfl)
  have Dn3 : Dn K mg "_law_kinds" "_law_kinds" s_kinds ["e"] := dn_mk (PySem.W.mg_of X G b3) D3 (D3.binds (ps := ["e"]) fun _ _ _ _ _ _ us hl => match us, hl with | [_], _ => rfl)
  have Dn4 : Dn K mg "_law_more_kinds" "_law_more_kinds" s_more_kinds ["e"] := dn_mk (PySem.W.mg_of X G b4) D4 (D4.binds (ps := ["e"]) fun _ _ _ _ _ _ us hl => match us, hl with | [_], _ => rfl)
  have Dn5 : Dn K mg "_law_any_field" "_law_any_field" s_any_field ["pen"] := dn_mk (PySem.W.mg_of X G b5) D5 (D5.binds (ps := ["pen"]) fun _ _ _ _ _ _ us hl => match us, hl with | [_], _ => rfl)
  have Dn6 : Dn K mg "_law_raised" "_law_raised" s_raised ["kind", "one", "two", "three"] := dn_mk (PySem.W.mg_of X G b6) D6 (D6.binds (ps := ["kind", "one", "two", "three"]) fun _ _ _ _ _ _ us hl => match us, hl with | [_, _, _, _], _ => rfl)
  have Dn7 : Dn K mg "_law_raised_too" "_law_raised_too" s_raised_too ["kind", "one", "two", "three"] := dn_mk (PySem.W.mg_of X G b7) D7 (D7.binds (ps := ["kind", "one", "two", "three"]) fun _ _ _ _ _ _ us hl => match us, hl with | [_, _, _, _], _ => rfl)
  have Dn8 : Dn K mg "_law_told" "_law_told" s_told ["kind", "one", "two", "three"] := dn_mk (PySem.W.mg_of X G b8) D8 (D8.binds (ps := ["kind", "one", "two", "three"]) fun _ _ _ _ _ _ us hl => match us, hl with | [_, _, _, _], _ => rfl)
  have Dn9 : Dn K mg "_law_due" "_law_due" s_due ["kind", "one", "two", "three"] := dn_mk (PySem.W.mg_of X G b9) D9 (D9.binds (ps := ["kind", "one", "two", "three"]) fun _ _ _ _ _ _ us hl => match us, hl with | [_, _, _, _], _ => rfl)
  have Dn10 : Dn K mg "law" "law" s_law ["script"] := dn_mk (PySem.W.mg_of X G b10) D10 (D10.binds (ps := ["script"]) fun _ _ _ _ _ _ us hl => match us, hl with | [_], _ => rfl)
  have T : ∀ base, Txt P w K mg base (cOf [C0, C1, C2, C3, C4, C5, C6, C7, C8, C9, C10, C11, C12, C13, C14, C15, C16, C17]) := fun base => {
    inj := inj_of hinj, err := hE,
    b_int := PySem.W.mg_none_of X G z_int,
    b_list := PySem.W.mg_none_of X G z_list,
    b_len := PySem.W.mg_none_of X G z_len,
    b_repr := PySem.W.mg_none_of X G z_repr,
    b_range := PySem.W.mg_none_of X G z_range,
    b_isinstance := PySem.W.mg_none_of X G z_isinstance,
    b_ValueError := PySem.W.mg_none_of X G z_ValueError,
    m_HiddenError := PySem.W.mg_of X G a0,
    m_BadNumber := PySem.W.mg_of X G a1,
    m_BadRow := PySem.W.mg_of X G a2,
    m_BadTable := PySem.W.mg_of X G a3,
    m_BadTree := PySem.W.mg_of X G a4,
    m_BadPlan := PySem.W.mg_of X G a5,
    m_BadBook := PySem.W.mg_of X G a6,
    m_BadName := PySem.W.mg_of X G a7,
    m_BadText := PySem.W.mg_of X G a8,
    m_NoPlace := PySem.W.mg_of X G a9,
    m_NoName := PySem.W.mg_of X G a10,
    m_TakenName := PySem.W.mg_of X G a11,
    m_Unlike := PySem.W.mg_of X G a12,
    m_NotThere := PySem.W.mg_of X G a13,
    m_TooMany := PySem.W.mg_of X G a14,
    m_NotKept := PySem.W.mg_of X G a15,
    m_NothingToUndo := PySem.W.mg_of X G a16,
    m_NothingToRedo := PySem.W.mg_of X G a17,
    i_BadNumber := ei_BadNumber (PySem.W.mg_of X G a1) (hE C1 (mem_allC (c := cOf [C0, C1, C2, C3, C4, C5, C6, C7, C8, C9, C10, C11, C12, C13, C14, C15, C16, C17]) (i := 1) (by decide))) i0 t0 F0,
    i_BadRow := ei_BadRow (PySem.W.mg_of X G a2) (hE C2 (mem_allC (c := cOf [C0, C1, C2, C3, C4, C5, C6, C7, C8, C9, C10, C11, C12, C13, C14, C15, C16, C17]) (i := 2) (by decide))) i1 t1 F1,
    i_BadTable := ei_BadTable (PySem.W.mg_of X G a3) (hE C3 (mem_allC (c := cOf [C0, C1, C2, C3, C4, C5, C6, C7, C8, C9, C10, C11, C12, C13, C14, C15, C16, C17]) (i := 3) (by decide))) i2 t2 F2,
    i_BadTree := ei_BadTree (PySem.W.mg_of X G a4) (hE C4 (mem_allC (c := cOf [C0, C1, C2, C3, C4, C5, C6, C7, C8, C9, C10, C11, C12, C13, C14, C15, C16, C17]) (i := 4) (by decide))) i3 t3 F3,
    i_BadPlan := ei_BadPlan (PySem.W.mg_of X G a5) (hE C5 (mem_allC (c := cOf [C0, C1, C2, C3, C4, C5, C6, C7, C8, C9, C10, C11, C12, C13, C14, C15, C16, C17]) (i := 5) (by decide))) i4 t4 F4,
    i_BadBook := ei_BadBook (PySem.W.mg_of X G a6) (hE C6 (mem_allC (c := cOf [C0, C1, C2, C3, C4, C5, C6, C7, C8, C9, C10, C11, C12, C13, C14, C15, C16, C17]) (i := 6) (by decide))) i5 t5 F5,
    i_BadName := ei_BadName (PySem.W.mg_of X G a7) (hE C7 (mem_allC (c := cOf [C0, C1, C2, C3, C4, C5, C6, C7, C8, C9, C10, C11, C12, C13, C14, C15, C16, C17]) (i := 7) (by decide))) i6 t6 F6,
    i_BadText := ei_BadText (PySem.W.mg_of X G a8) (hE C8 (mem_allC (c := cOf [C0, C1, C2, C3, C4, C5, C6, C7, C8, C9, C10, C11, C12, C13, C14, C15, C16, C17]) (i := 8) (by decide))) i7 t7 F7,
    i_NoPlace := ei_NoPlace (PySem.W.mg_of X G a9) (hE C9 (mem_allC (c := cOf [C0, C1, C2, C3, C4, C5, C6, C7, C8, C9, C10, C11, C12, C13, C14, C15, C16, C17]) (i := 9) (by decide))) i8 t8 F8,
    i_NoName := ei_NoName (PySem.W.mg_of X G a10) (hE C10 (mem_allC (c := cOf [C0, C1, C2, C3, C4, C5, C6, C7, C8, C9, C10, C11, C12, C13, C14, C15, C16, C17]) (i := 10) (by decide))) i9 t9 F9,
    i_TakenName := ei_TakenName (PySem.W.mg_of X G a11) (hE C11 (mem_allC (c := cOf [C0, C1, C2, C3, C4, C5, C6, C7, C8, C9, C10, C11, C12, C13, C14, C15, C16, C17]) (i := 11) (by decide))) i10 t10 F10,
    i_Unlike := ei_Unlike (PySem.W.mg_of X G a12) (hE C12 (mem_allC (c := cOf [C0, C1, C2, C3, C4, C5, C6, C7, C8, C9, C10, C11, C12, C13, C14, C15, C16, C17]) (i := 12) (by decide))) i11 t11 F11,
    i_NotThere := ei_NotThere (PySem.W.mg_of X G a13) (hE C13 (mem_allC (c := cOf [C0, C1, C2, C3, C4, C5, C6, C7, C8, C9, C10, C11, C12, C13, C14, C15, C16, C17]) (i := 13) (by decide))) i12 t12 F12,
    i_TooMany := ei_TooMany (PySem.W.mg_of X G a14) (hE C14 (mem_allC (c := cOf [C0, C1, C2, C3, C4, C5, C6, C7, C8, C9, C10, C11, C12, C13, C14, C15, C16, C17]) (i := 14) (by decide))) i13 t13 F13,
    i_NotKept := ei_NotKept (PySem.W.mg_of X G a15) (hE C15 (mem_allC (c := cOf [C0, C1, C2, C3, C4, C5, C6, C7, C8, C9, C10, C11, C12, C13, C14, C15, C16, C17]) (i := 15) (by decide))) i14 t14 F14,
    i_NothingToUndo := ⟨PySem.W.mg_of X G a16, ⟨_, hE C16 (mem_allC (c := cOf [C0, C1, C2, C3, C4, C5, C6, C7, C8, C9, C10, C11, C12, C13, C14, C15, C16, C17]) (i := 16) (by decide))⟩, x0⟩,
    i_NothingToRedo := ⟨PySem.W.mg_of X G a17, ⟨_, hE C17 (mem_allC (c := cOf [C0, C1, C2, C3, C4, C5, C6, C7, C8, C9, C10, C11, C12, C13, C14, C15, C16, C17]) (i := 17) (by decide))⟩, x1⟩,
  }
  refine ⟨gd10, fun s u => ?_, fun base _ _ => ?_⟩
  · obtain ⟨_, _, _, _, _, _, _, _, _, rfl, _⟩ := D10.ex
    exact .of_eq rfl
  have H0 := ok_pen (T base) Dn0 
  have H1 := ok_draw (T base) Dn1 
  have H2 := ok_pick (T base) Dn2 H1
  have H5 := ok_any_field (T base) Dn5 H1 H2
  have H6 := ok_raised (T base) Dn6 
  have H7 := ok_raised_too (T base) Dn7 
  have H4 := ok_more_kinds (T base) Dn4 
  have H3 := ok_kinds (T base) Dn3 H4
  have H8 := ok_told (T base) Dn8 H3 H6 H7
  have H9 := ok_due (T base) Dn9 
  exact run_law (T base) H0 H5 H8 H9 D10
end K01
set_option pp.maxSteps 60
open PySem PySem.W PyProof.Rows
set_option maxRecDepth 100000 in
set_option maxHeartbeats 80000000 in
theorem PySem.Challenge.cw_hiddenmoves_k01_errors_as_told_holds : PySem.Challenge.rw_hiddenmoves_k01_errors_as_told.Holds := by
  w_on; o_law; k_head; (case hw => w_witness2); k_fill
  refine Dq.walkD (l := PySem.Challenge.rw_hiddenmoves_k01_errors_as_told) (n := 63) (k := 5) (x := "script") (sp := fun _ => K01.sp_law fun _ => 0) (by rfl) (by decide) (by rfl) ⟨⟨rfl, by decide, by decide⟩, rfl⟩ (fun w h Y => PySem.W.kIn_of Y) ?F ?S
  case S =>
    intro K ns hl
    exact ⟨ns, rfl, hl, rfl, fun _ => rfl⟩
  case F =>
    intro w mg fa h KX G hmg
    refine' K01.all_mk KX G hmg ?a0 ?a1 ?a2 ?a3 ?a4 ?a5 ?a6 ?a7 ?a8 ?a9 ?a10 ?a11 ?a12 ?a13 ?a14 ?a15 ?a16 ?a17 ?hinj ?herr ?z_int ?z_list ?z_len ?z_repr ?z_range ?z_isinstance ?z_ValueError ?i0 ?t0 ?F0 ?i1 ?t1 ?F1 ?i2 ?t2 ?F2 ?i3 ?t3 ?F3 ?i4 ?t4 ?F4 ?i5 ?t5 ?F5 ?i6 ?t6 ?F6 ?i7 ?t7 ?F7 ?i8 ?t8 ?F8 ?i9 ?t9 ?F9 ?i10 ?t10 ?F10 ?i11 ?t11 ?F11 ?i12 ?t12 ?F12 ?i13 ?t13 ?F13 ?i14 ?t14 ?F14 ?x0 ?x1 ?b0 ?D0 ?b1 ?D1 ?b2 ?D2 ?b3 ?D3 ?b4 ?D4 ?b5 ?D5 ?b6 ?D6 ?b7 ?D7 ?b8 ?D8 ?b9 ?D9 ?b10 ?D10
    (case a0 => k_is)
    (case a1 => k_is)
    (case a2 => k_is)
    (case a3 => k_is)
    (case a4 => k_is)
    (case a5 => k_is)
    (case a6 => k_is)
    (case a7 => k_is)
    (case a8 => k_is)
    (case a9 => k_is)
    (case a10 => k_is)
    (case a11 => k_is)
    (case a12 => k_is)
    (case a13 => k_is)
    (case a14 => k_is)
    (case a15 => k_is)
    (case a16 => k_is)
    (case a17 => k_is)
    (case hinj => decide +kernel)
    (case herr => kernel_rfl)
    (case z_int => k_is)
    (case z_list => k_is)
    (case z_len => k_is)
    (case z_repr => k_is)
    (case z_range => k_is)
    (case z_isinstance => k_is)
    (case z_ValueError => k_is)
    (case i0 => k_is)
    (case t0 => k_is)
    (case F0 => (refine' L2.fun_mk ?l ?c ?k; (case l => k_is); (case c => k_is); (case k => k_is)))
    (case i1 => k_is)
    (case t1 => k_is)
    (case F1 => (refine' L2.fun_mk ?l ?c ?k; (case l => k_is); (case c => k_is); (case k => k_is)))
    (case i2 => k_is)
    (case t2 => k_is)
    (case F2 => (refine' L2.fun_mk ?l ?c ?k; (case l => k_is); (case c => k_is); (case k => k_is)))
    (case i3 => k_is)
    (case t3 => k_is)
    (case F3 => (refine' L2.fun_mk ?l ?c ?k; (case l => k_is); (case c => k_is); (case k => k_is)))
    (case i4 => k_is)
    (case t4 => k_is)
    (case F4 => (refine' L2.fun_mk ?l ?c ?k; (case l => k_is); (case c => k_is); (case k => k_is)))
    (case i5 => k_is)
    (case t5 => k_is)
    (case F5 => (refine' L2.fun_mk ?l ?c ?k; (case l => k_is); (case c => k_is); (case k => k_is)))
    (case i6 => k_is)
    (case t6 => k_is)
    (case F6 => (refine' L2.fun_mk ?l ?c ?k; (case l => k_is); (case c => k_is); (case k => k_is)))
    (case i7 => k_is)
    (case t7 => k_is)
    (case F7 => (refine' L2.fun_mk ?l ?c ?k; (case l => k_is); (case c => k_is); (case k => k_is)))
    (case i8 => k_is)
    (case t8 => k_is)
    (case F8 => (refine' L2.fun_mk ?l ?c ?k; (case l => k_is); (case c => k_is); (case k => k_is)))
    (case i9 => k_is)
    (case t9 => k_is)
    (case F9 => (refine' L2.fun_mk ?l ?c ?k; (case l => k_is); (case c => k_is); (case k => k_is)))
    (case i10 => k_is)
    (case t10 => k_is)
    (case F10 => (refine' L2.fun_mk ?l ?c ?k; (case l => k_is); (case c => k_is); (case k => k_is)))
    (case i11 => k_is)
    (case t11 => k_is)
    (case F11 => (refine' L2.fun_mk ?l ?c ?k; (case l => k_is); (case c => k_is); (case k => k_is)))
    (case i12 => k_is)
    (case t12 => k_is)
    (case F12 => (refine' L2.fun_mk ?l ?c ?k; (case l => k_is); (case c => k_is); (case k => k_is)))
    (case i13 => k_is)
    (case t13 => k_is)
    (case F13 => (refine' L2.fun_mk ?l ?c ?k; (case l => k_is); (case c => k_is); (case k => k_is)))
    (case i14 => k_is)
    (case t14 => k_is)
    (case F14 => (refine' L2.fun_mk ?l ?c ?k; (case l => k_is); (case c => k_is); (case k => k_is)))
    (case x0 => kernel_rfl)
    (case x1 => kernel_rfl)
    (case b0 => k_is)
    (case D0 => (refine' L2.fun_mk ?l ?c ?k; (case l => k_is); (case c => k_is); (case k => k_is)))
    (case b1 => k_is)
    (case D1 => (refine' L2.fun_mk ?l ?c ?k; (case l => k_is); (case c => k_is); (case k => k_is)))
    (case b2 => k_is)
    (case D2 => (refine' L2.fun_mk ?l ?c ?k; (case l => k_is); (case c => k_is); (case k => k_is)))
    (case b3 => k_is)
    (case D3 => (refine' L2.fun_mk ?l ?c ?k; (case l => k_is); (case c => k_is); (case k => k_is)))
    (case b4 => k_is)
    (case D4 => (refine' L2.fun_mk ?l ?c ?k; (case l => k_is); (case c => k_is); (case k => k_is)))
    (case b5 => k_is)
    (case D5 => (refine' L2.fun_mk ?l ?c ?k; (case l => k_is); (case c => k_is); (case k => k_is)))
    (case b6 => k_is)
    (case D6 => (refine' L2.fun_mk ?l ?c ?k; (case l => k_is); (case c => k_is); (case k => k_is)))
    (case b7 => k_is)
    (case D7 => (refine' L2.fun_mk ?l ?c ?k; (case l => k_is); (case c => k_is); (case k => k_is)))
    (case b8 => k_is)
    (case D8 => (refine' L2.fun_mk ?l ?c ?k; (case l => k_is); (case c => k_is); (case k => k_is)))
    (case b9 => k_is)
    (case D9 => (refine' L2.fun_mk ?l ?c ?k; (case l => k_is); (case c => k_is); (case k => k_is)))
    (case b10 => k_is)
    (case D10 => (refine' L2.fun_mk ?l ?c ?k; (case l => k_is); (case c => k_is); (case k => k_is)))
#print axioms PySem.Challenge.cw_hiddenmoves_k01_errors_as_told_holds
